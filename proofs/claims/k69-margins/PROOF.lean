import PyProof.Rows.All
import Wide.All
import OpenK.AllK
import Wide.FinOn
import HandS.ForMost
import HandS.Walk
import HandS.Wide
import HandS.Zip
import HandS.TupAny
import HandS.TupMul
import HandS.Style
import HandS.IsInst
import KE.DataEq
import KE.DataFind
import KE.DataAny
import KE.DataCmp
import HandS.Text
import KE.KTupSum
import KE.DataIsa
import KE.DatumIndex
import PyProof.ReprReads
import HandS.Conv
import HandS.Words
import HandS.TupSets
import PyProof.ReprLen
import PyProof.FitsInt
import PySem.Challenge.RW_nobodyknowswhich_k69_whole_margins_by_al
set_option Elab.async false
set_option linter.all false
set_option maxRecDepth 100000
set_option maxHeartbeats 4000000
/-! MpCore: values, the store, what lies between them and the abstract heap. Own work. -/
namespace MP
open PySem PySem.Spec PyProof.Rows L2
abbrev Frag := PySem.W.Frag
/-- a value of the mirror -/
abbrev D := PyData
/-- a mutable list's name -/
def mref (k : Nat) : D := .dict [(.int k, .none)]
/-- what the mutable lists hold; none: frozen meanwhile -/
abbrev Store := List (Option D)
abbrev Ls := List (Option D)
inductive Res (α : Type) where
  | ok (a : α) (st : Store)
  | exn (c : Str) (v : D) (st : Store)
  | stuck
def Res.bind {α β : Type} (r : Res α) (f : α → Store → Res β) : Res β :=
  match r with
  | .ok a st => f a st
  | .exn c v st => .exn c v st
  | .stuck => .stuck
@[simp] theorem Res.bind_ok {α β : Type} (a : α) (st : Store) (f : α → Store → Res β) : (Res.ok a st).bind f = f a st := rfl
@[simp] theorem Res.bind_stuck {α β : Type} (f : α → Store → Res β) : (Res.stuck : Res α).bind f = .stuck := rfl
@[simp] theorem Res.bind_exn {α β : Type} (c : Str) (v : D) (st : Store) (f : α → Store → Res β) : (Res.exn c v st : Res α).bind f = .exn c v st := rfl
/-- what a value reads as: a mutable list's name, its list -/
def rd (st : Store) (d : D) : D :=
  match d with
  | .dict [(.int (.ofNat k), .none)] => match st[k]? with
    | some (some (.list xs)) => .list xs
    | _ => d
  | _ => d

/-- data without dicts, of nesting n at most -/
def okD : Nat → D → Bool
  | _, .none => true
  | _, .bool _ => true
  | _, .int _ => true
  | _, .str _ => true
  | n + 1, .list xs => xs.all (okD n)
  | n + 1, .tuple xs => xs.all (okD n)
  | _, _ => false
theorem okD_plain : ∀ (n : Nat) (d : D), okD n d = true → d.plain = true
  | _, .none, _ => rfl
  | _, .bool _, _ => rfl
  | _, .int _, _ => rfl
  | _, .str _, _ => rfl
  | 0, .list _, h => by simp [okD] at h
  | 0, .tuple _, h => by simp [okD] at h
  | 0, .dict _, h => by simp [okD] at h
  | n + 1, .dict _, h => by simp [okD] at h
  | n + 1, .list xs, h => by
    have h' : xs.all (okD n) = true := by simpa [okD] using h
    simp only [PyData.plain]
    have : ∀ ys : List D, ys.all (okD n) = true → PyData.plainAll ys = true := fun ys => by
      induction ys with
      | nil => intro _; rfl
      | cons y ys ih =>
        intro h
        rw [List.all_cons, Bool.and_eq_true] at h
        rw [PyData.plainAll, okD_plain n y h.1, ih h.2]; rfl
    exact this xs h'
  | n + 1, .tuple xs, h => by
    have h' : xs.all (okD n) = true := by simpa [okD] using h
    simp only [PyData.plain]
    have : ∀ ys : List D, ys.all (okD n) = true → PyData.plainAll ys = true := fun ys => by
      induction ys with
      | nil => intro _; rfl
      | cons y ys ih =>
        intro h
        rw [List.all_cons, Bool.and_eq_true] at h
        rw [PyData.plainAll, okD_plain n y h.1, ih h.2]; rfl
    exact this xs h'
theorem okD_depth : ∀ (n : Nat) (d : D), okD n d = true → d.depth ≤ n
  | _, .none, _ => by simp [PyData.depth]
  | _, .bool _, _ => by simp [PyData.depth]
  | _, .int _, _ => by simp [PyData.depth]
  | _, .str _, _ => by simp [PyData.depth]
  | 0, .list _, h => by simp [okD] at h
  | 0, .tuple _, h => by simp [okD] at h
  | 0, .dict _, h => by simp [okD] at h
  | n + 1, .dict _, h => by simp [okD] at h
  | n + 1, .list xs, h => by
    have h' : xs.all (okD n) = true := by simpa [okD] using h
    simp only [PyData.depth]
    have : ∀ ys : List D, ys.all (okD n) = true → PyData.depthAll ys ≤ n := fun ys => by
      induction ys with
      | nil => intro _; simp [PyData.depthAll]
      | cons y ys ih =>
        intro h
        rw [List.all_cons, Bool.and_eq_true] at h
        rw [PyData.depthAll]
        exact Nat.max_le.mpr ⟨okD_depth n y h.1, ih h.2⟩
    exact Nat.succ_le_succ (this xs h')
  | n + 1, .tuple xs, h => by
    have h' : xs.all (okD n) = true := by simpa [okD] using h
    simp only [PyData.depth]
    have : ∀ ys : List D, ys.all (okD n) = true → PyData.depthAll ys ≤ n := fun ys => by
      induction ys with
      | nil => intro _; simp [PyData.depthAll]
      | cons y ys ih =>
        intro h
        rw [List.all_cons, Bool.and_eq_true] at h
        rw [PyData.depthAll]
        exact Nat.max_le.mpr ⟨okD_depth n y h.1, ih h.2⟩
    exact Nat.succ_le_succ (this xs h')
theorem okD_all {n : Nat} {xs : List D} (h : xs.all (okD n) = true) : PyData.plainAll xs = true ∧ PyData.depthAll xs ≤ n := by
  induction xs with
  | nil => exact ⟨rfl, by simp [PyData.depthAll]⟩
  | cons y ys ih =>
    rw [List.all_cons, Bool.and_eq_true] at h
    obtain ⟨a, b⟩ := ih h.2
    refine ⟨by rw [PyData.plainAll, okD_plain n y h.1, a]; rfl, ?_⟩
    rw [PyData.depthAll]
    exact Nat.max_le.mpr ⟨okD_depth n y h.1, b⟩

/-! ### the relation -/
mutual
inductive RV (K : Frag) (F : Hp) (ρ : List Addr) : V → D → Prop
  | non : RV K F ρ .non .none
  | bl (b : Bool) : RV K F ρ (.bl b) (.bool b)
  | int (i : Int) : RV K F ρ (.int i) (.int i)
  | str (x : Str) : RV K F ρ (.str x) (.str x)
  | lst {a : Addr} {xs : List V} {ds : List D} : SqL K F a xs → RVs K F ρ xs ds → RV K F ρ (.ref a) (.list ds)
  | tup {a : Addr} {xs : List V} {ds : List D} : SqT K F a xs → RVs K F ρ xs ds → RV K F ρ (.ref a) (.tuple ds)
  | mrf {a : Addr} {k : Nat} : ρ[k]? = some a → RV K F ρ (.ref a) (mref k)
inductive RVs (K : Frag) (F : Hp) (ρ : List Addr) : List V → List D → Prop
  | nil : RVs K F ρ [] []
  | cons {v : V} {vs : List V} {d : D} {ds : List D} : RV K F ρ v d → RVs K F ρ vs ds → RVs K F ρ (v :: vs) (d :: ds)
end
section
variable {K : Frag} {F G : Hp} {ρ ρ' : List Addr}
theorem Rd.mono {H H' : Hp} {a : Addr} {o : HO} (h : ∀ b u, H b = some u → H' b = some u) (r : Rd H a o) : Rd H' a o := by
  rcases r with r | ⟨u, r⟩
  · exact .inl (h _ _ r)
  · exact .inr ⟨u, h _ _ r⟩
theorem sqL_mono {a : Addr} {xs : List V} (h : ∀ b u, F b = some u → G b = some u) (s : SqL K F a xs) : SqL K G a xs := by
  rcases s with s | s
  · exact .inl (Rd.mono h s)
  · exact .inr s
theorem sqT_mono {a : Addr} {xs : List V} (h : ∀ b u, F b = some u → G b = some u) (s : SqT K F a xs) : SqT K G a xs := by
  rcases s with s | s
  · exact .inl (Rd.mono h s)
  · exact .inr s
mutual
theorem RV.mono (h : ∀ b u, F b = some u → G b = some u) (hr : ∀ (k : Nat) a, ρ[k]? = some a → ρ'[k]? = some a) : ∀ {v : V} {d : D}, RV K F ρ v d → RV K G ρ' v d
  | _, _, .non => .non
  | _, _, .bl b => .bl b
  | _, _, .int i => .int i
  | _, _, .str x => .str x
  | _, _, .lst s t => .lst (sqL_mono h s) (RVs.mono h hr t)
  | _, _, .tup s t => .tup (sqT_mono h s) (RVs.mono h hr t)
  | _, _, .mrf e => .mrf (hr _ _ e)
theorem RVs.mono (h : ∀ b u, F b = some u → G b = some u) (hr : ∀ (k : Nat) a, ρ[k]? = some a → ρ'[k]? = some a) : ∀ {vs : List V} {ds : List D}, RVs K F ρ vs ds → RVs K G ρ' vs ds
  | _, _, .nil => .nil
  | _, _, .cons r t => .cons (RV.mono h hr r) (RVs.mono h hr t)
end
theorem RVs.length : ∀ {vs : List V} {ds : List D}, RVs K F ρ vs ds → vs.length = ds.length
  | _, _, .nil => rfl
  | _, _, .cons _ t => by simp [RVs.length t]
theorem RVs.get : ∀ {vs : List V} {ds : List D} {i : Nat} {d : D}, RVs K F ρ vs ds → ds[i]? = some d → ∃ v, vs[i]? = some v ∧ RV K F ρ v d
  | _, _, _, _, .nil, e => by simp at e
  | _, _, 0, _, .cons r _, e => by simp at e; subst e; exact ⟨_, rfl, r⟩
  | _, _, i + 1, _, .cons _ t, e => by
    obtain ⟨v, h1, h2⟩ := RVs.get (i := i) t (by simpa using e)
    exact ⟨v, by simpa using h1, h2⟩
theorem RVs.get' : ∀ {vs : List V} {ds : List D} {i : Nat} {v : V}, RVs K F ρ vs ds → vs[i]? = some v → ∃ d, ds[i]? = some d ∧ RV K F ρ v d
  | _, _, _, _, .nil, e => by simp at e
  | _, _, 0, _, .cons r _, e => by simp at e; subst e; exact ⟨_, rfl, r⟩
  | _, _, i + 1, _, .cons _ t, e => by
    obtain ⟨v, h1, h2⟩ := RVs.get' (i := i) t (by simpa using e)
    exact ⟨v, by simpa using h1, h2⟩
theorem RVs.append : ∀ {vs ws : List V} {ds es : List D}, RVs K F ρ vs ds → RVs K F ρ ws es → RVs K F ρ (vs ++ ws) (ds ++ es)
  | _, _, _, _, .nil, s => s
  | _, _, _, _, .cons r t, s => .cons r (RVs.append t s)
theorem RVs.take : ∀ {vs : List V} {ds : List D} (n : Nat), RVs K F ρ vs ds → RVs K F ρ (vs.take n) (ds.take n)
  | _, _, 0, _ => .nil
  | _, _, _ + 1, .nil => .nil
  | _, _, n + 1, .cons r t => .cons r (RVs.take n t)
theorem RVs.drop : ∀ {vs : List V} {ds : List D} (n : Nat), RVs K F ρ vs ds → RVs K F ρ (vs.drop n) (ds.drop n)
  | _, _, 0, r => r
  | _, _, _ + 1, .nil => .nil
  | _, _, n + 1, .cons _ t => RVs.drop n t
theorem RVs.reverse {vs : List V} {ds : List D} (t : RVs K F ρ vs ds) : RVs K F ρ vs.reverse ds.reverse := by
  have : ∀ {vs : List V} {ds : List D}, RVs K F ρ vs ds → RVs K F ρ vs.reverse ds.reverse := by
    intro vs
    induction vs with
    | nil => intro ds t; cases t; exact .nil
    | cons v vs ih =>
      intro ds t
      cases t with
      | cons r t => rw [List.reverse_cons, List.reverse_cons]; exact (ih t).append (.cons r .nil)
  exact this t
theorem RVs.set {v : V} {d : D} (r : RV K F ρ v d) : ∀ {vs : List V} {ds : List D} (i : Nat), RVs K F ρ vs ds → RVs K F ρ (vs.set i v) (ds.set i d)
  | _, _, _, .nil => .nil
  | _, _, 0, .cons _ t => .cons r t
  | _, _, i + 1, .cons q t => .cons q (RVs.set r i t)
theorem RVs.map {α : Type} {f : α → V} {g : α → D} (h : ∀ a, RV K F ρ (f a) (g a)) : ∀ xs : List α, RVs K F ρ (xs.map f) (xs.map g)
  | [] => .nil
  | a :: r => .cons (h a) (RVs.map h r)
mutual
theorem RV.dp : ∀ {v : V} {d : D}, RV K F ρ v d → d.plain = true → Dp K F v d
  | _, _, .non, _ => .non
  | _, _, .bl b, _ => .bl b
  | _, _, .int i, _ => .int i
  | _, _, .str x, _ => .str x
  | _, _, .lst s t, h => .lst s (RVs.dp t (by simpa [PyData.plain] using h))
  | _, _, .tup s t, h => .tup s (RVs.dp t (by simpa [PyData.plain] using h))
  | _, _, .mrf e, h => by simp [mref, PyData.plain] at h
theorem RVs.dp : ∀ {vs : List V} {ds : List D}, RVs K F ρ vs ds → PyData.plainAll ds = true → DpAll K F vs ds
  | _, _, .nil, _ => .nil
  | _, _, .cons (d := d) (ds := ds) r t, h => by
    rw [PyData.plainAll, Bool.and_eq_true] at h
    exact .cons (RV.dp r h.1) (RVs.dp t h.2)
end
end

/-- the store over the heap, the frozen part F -/
structure Sto (K : Frag) (F : Hp) (ρ : List Addr) (st : Store) (H : Hp) : Prop where
  sub : ∀ a o, F a = some o → H a = some o
  nd : ρ.Nodup
  len : st.length = ρ.length
  at_ : ∀ (k : Nat) (a : Addr), ρ[k]? = some a → ∃ xs, H a = some (.lst xs)
  ok : ∀ (k : Nat) (a : Addr) (d : D), ρ[k]? = some a → st[k]? = some (some d) → F a = none ∧ ∃ xs ds, d = .list ds ∧ H a = some (.lst xs) ∧ RVs K F ρ xs ds ∧ ds.all (okD 40) = true
/-- the locals -/
structure Loc (K : Frag) (F : Hp) (ρ : List Addr) (ls : Ls) (σ : L2.St) : Prop where
  len : ls.length ≤ σ.length
  at_ : ∀ (i : Nat) (d : D), ls[i]? = some (some d) → ∃ v, σ[i]? = some (some v) ∧ RV K F ρ v d
/-- what was stays -/
structure Ext (F : Hp) (ρ : List Addr) (H : Hp) (F' : Hp) (ρ' : List Addr) (H' : Hp) : Prop where
  frz : ∀ a o, F a = some o → F' a = some o
  adr : ∀ (k : Nat) a, ρ[k]? = some a → ρ'[k]? = some a
  new : ∀ a, a ∈ ρ' → a ∈ ρ ∨ H a = none
  keep : ∀ a o, H a = some o → a ∉ ρ → H' a = some o
  none : ∀ a, H' a = none → H a = none
  fnw : ∀ a o, F' a = some o → F a = some o ∨ H a = Option.none ∨ a ∈ ρ
theorem Ext.refl {F : Hp} {ρ : List Addr} {H : Hp} : Ext F ρ H F ρ H := ⟨fun _ _ h => h, fun _ _ h => h, fun _ h => .inl h, fun _ _ h _ => h, fun _ h => h, fun _ _ h => .inl h⟩
theorem Ext.trans {F F' F'' : Hp} {ρ ρ' ρ'' : List Addr} {H H' H'' : Hp} (a : Ext F ρ H F' ρ' H') (b : Ext F' ρ' H' F'' ρ'' H'') : Ext F ρ H F'' ρ'' H'' where
  frz := fun c o h => b.frz c o (a.frz c o h)
  adr := fun k c h => b.adr k c (a.adr k c h)
  new := fun c h => by
    rcases b.new c h with h | h
    · exact a.new c h
    · exact .inr (a.none c h)
  keep := fun c o h n => b.keep c o (a.keep c o h n) fun hm => by
    rcases a.new c hm with z | z
    · exact n z
    · rw [h] at z; cases z
  none := fun c h => a.none c (b.none c h)
  fnw := fun c o h => by
    rcases b.fnw c o h with h | h | h
    · exact a.fnw c o h
    · exact .inr (.inl (a.none c h))
    · rcases a.new c h with h | h
      · exact .inr (.inr h)
      · exact .inr (.inl h)
theorem RV.ext {K : Frag} {F F' : Hp} {ρ ρ' : List Addr} {H H' : Hp} {v : V} {d : D} (r : RV K F ρ v d) (e : Ext F ρ H F' ρ' H') : RV K F' ρ' v d := r.mono e.frz e.adr
theorem RVs.ext {K : Frag} {F F' : Hp} {ρ ρ' : List Addr} {H H' : Hp} {v : List V} {d : List D} (r : RVs K F ρ v d) (e : Ext F ρ H F' ρ' H') : RVs K F' ρ' v d := r.mono e.frz e.adr
theorem Loc.ext {K : Frag} {F F' : Hp} {ρ ρ' : List Addr} {H H' : Hp} {ls : Ls} {σ : L2.St} (l : Loc K F ρ ls σ) (e : Ext F ρ H F' ρ' H') : Loc K F' ρ' ls σ := ⟨l.len, fun i d h =>
  let ⟨v, h1, h2⟩ := l.at_ i d h; ⟨v, h1, h2.ext e⟩⟩

/-- of data the names of lists do not matter -/
theorem RV.plain {K : Frag} {F : Hp} {ρ ρ' : List Addr} : ∀ (n : Nat) {v : V} {d : D}, RV K F ρ v d → okD n d = true → RV K F ρ' v d
  | _, _, _, .non, _ => .non
  | _, _, _, .bl b, _ => .bl b
  | _, _, _, .int i, _ => .int i
  | _, _, _, .str x, _ => .str x
  | 0, _, _, .lst s t, h => by simp [okD] at h
  | 0, _, _, .tup s t, h => by simp [okD] at h
  | n + 1, _, _, .lst s t, h => by
    refine .lst s ?_
    have h' := (show List.all _ (okD n) = true from by simpa [okD] using h)
    clear h s
    rename_i a xs ds
    induction ds generalizing xs with
    | nil => cases t; exact .nil
    | cons d ds ih =>
      cases t with
      | cons r t =>
        rw [List.all_cons, Bool.and_eq_true] at h'
        exact .cons (RV.plain n r h'.1) (ih _ t h'.2)
  | n + 1, _, _, .tup s t, h => by
    refine .tup s ?_
    have h' := (show List.all _ (okD n) = true from by simpa [okD] using h)
    clear h s
    rename_i a xs ds
    induction ds generalizing xs with
    | nil => cases t; exact .nil
    | cons d ds ih =>
      cases t with
      | cons r t =>
        rw [List.all_cons, Bool.and_eq_true] at h'
        exact .cons (RV.plain n r h'.1) (ih _ t h'.2)
  | 0, _, _, .mrf e, h => by simp [mref, okD] at h
  | n + 1, _, _, .mrf e, h => by simp [mref, okD] at h
theorem RVs.plain {K : Frag} {F : Hp} {ρ ρ' : List Addr} {n : Nat} : ∀ {vs : List V} {ds : List D}, RVs K F ρ vs ds → ds.all (okD n) = true → RVs K F ρ' vs ds
  | _, _, .nil, _ => .nil
  | _, _, .cons r t, h => by
    rw [List.all_cons, Bool.and_eq_true] at h
    exact .cons (r.plain n h.1) (RVs.plain t h.2)

/-! ### readings out of mirrors -/
abbrev ME := Ls → Store → Res D
abbrev MT := Ls → Store → Res Bool
abbrev MA := Ls → Store → Res (List D)
inductive Fl where
  | nx (ls : Ls)
  | rt (v : D)
  | bk (ls : Ls)
  | ct (ls : Ls)
abbrev MS := Ls → Store → Res Fl
abbrev Fn := List D → Store → Res D

def tE (K : Frag) (m : ME) : TE := fun σ H Q => ∃ F ρ ls st d st', Sto K F ρ st H ∧ Loc K F ρ ls σ ∧ m ls st = .ok d st' ∧
  ∀ F' ρ' H' v, Ext F ρ H F' ρ' H' → Sto K F' ρ' st' H' → RV K F' ρ' v d → Q v H'
def tT (K : Frag) (m : MT) : TT := fun σ H Q => ∃ F ρ ls st b st', Sto K F ρ st H ∧ Loc K F ρ ls σ ∧ m ls st = .ok b st' ∧
  ∀ F' ρ' H', Ext F ρ H F' ρ' H' → Sto K F' ρ' st' H' → Q b H'
def tA (K : Frag) (m : MA) : TA := fun σ H Q => ∃ F ρ ls st ds st', Sto K F ρ st H ∧ Loc K F ρ ls σ ∧ m ls st = .ok ds st' ∧
  ∀ F' ρ' H' vs, Ext F ρ H F' ρ' H' → Sto K F' ρ' st' H' → RVs K F' ρ' vs ds → Q vs H'
def flowTo (K : Frag) (F : Hp) (ρ : List Addr) (H : Hp) (D : Ends) (st' : Store) : Fl → Prop
  | .nx ls => ∀ F' ρ' σ' H', Ext F ρ H F' ρ' H' → Sto K F' ρ' st' H' → Loc K F' ρ' ls σ' → D.nx σ' H'
  | .bk ls => ∀ F' ρ' σ' H', Ext F ρ H F' ρ' H' → Sto K F' ρ' st' H' → Loc K F' ρ' ls σ' → D.bk σ' H'
  | .ct ls => ∀ F' ρ' σ' H', Ext F ρ H F' ρ' H' → Sto K F' ρ' st' H' → Loc K F' ρ' ls σ' → D.ct σ' H'
  | .rt d => ∀ F' ρ' H' v, Ext F ρ H F' ρ' H' → Sto K F' ρ' st' H' → RV K F' ρ' v d → D.rt v H'
def tS (K : Frag) (m : MS) : TS := fun D σ H => ∃ F ρ ls st fl st', Sto K F ρ st H ∧ Loc K F ρ ls σ ∧ m ls st = .ok fl st' ∧ flowTo K F ρ H D st' fl

/-! ### a weaker reading -/
theorem _root_.L2.PE.imp {X : Cx} {e : Expr} {t t' : TE} (h : PE X e t) (i : ∀ σ H Q, t' σ H Q → t σ H Q) : PE X e t' := ⟨fun pins s σ H Q I q => h.run pins s σ H Q I (i σ H Q q)⟩
theorem _root_.L2.PT.imp {X : Cx} {e : Expr} {t t' : TT} (h : PT X e t) (i : ∀ σ H Q, t' σ H Q → t σ H Q) : PT X e t' := ⟨fun pins s σ H Q I q => h.run pins s σ H Q I (i σ H Q q)⟩
theorem _root_.L2.PA.imp {X : Cx} {e : List Expr} {t t' : TA} (h : PA X e t) (i : ∀ σ H Q, t' σ H Q → t σ H Q) : PA X e t' := ⟨fun pos pins s σ H Q I q => h.run pos pins s σ H Q I (i σ H Q q)⟩
theorem _root_.L2.PS.imp {X : Cx} {e : Stmt} {t t' : TS} (h : PS X e t) (i : ∀ D σ H, t' D σ H → t D σ H) : PS X e t' := ⟨fun pins s σ H D I q => h.run pins s σ H D I (i D σ H q)⟩
theorem _root_.L2.PSs.imp {X : Cx} {e : List Stmt} {t t' : TS} (h : PSs X e t) (i : ∀ D σ H, t' D σ H → t D σ H) : PSs X e t' := ⟨fun pins s σ H D I q => h.run pins s σ H D I (i D σ H q)⟩
theorem flowTo.ext {K : Frag} {F F1 : Hp} {ρ ρ1 : List Addr} {H H1 : Hp} {D : Ends} {st' : Store} {fl : Fl} (h : flowTo K F ρ H D st' fl) (e : Ext F ρ H F1 ρ1 H1) : flowTo K F1 ρ1 H1 D st' fl := by
  cases fl with
  | nx ls => exact fun F' ρ' σ' H' x => h F' ρ' σ' H' (e.trans x)
  | bk ls => exact fun F' ρ' σ' H' x => h F' ρ' σ' H' (e.trans x)
  | ct ls => exact fun F' ρ' σ' H' x => h F' ρ' σ' H' (e.trans x)
  | rt d => exact fun F' ρ' H' v x => h F' ρ' H' v (e.trans x)
end MP

set_option Elab.async false
set_option linter.all false
set_option maxRecDepth 100000
set_option maxHeartbeats 4000000
/-! MpOps: operators on values, each with what the model does. Own work. -/
namespace MP
open PySem PySem.Spec PyProof.Rows L2

/-! ### what a value that is read looks like -/
def View (K : Frag) (F : Hp) (ρ : List Addr) (H : Hp) (x : V) : D → Prop
  | .none => x = .non
  | .bool b => x = .bl b
  | .int i => x = .int i
  | .str s => x = .str s
  | .list ds => ∃ a xs, x = .ref a ∧ SqL K H a xs ∧ RVs K F ρ xs ds
  | .tuple ds => ∃ a xs, x = .ref a ∧ SqT K F a xs ∧ RVs K F ρ xs ds
  | .dict _ => True
section
variable {K : Frag} {F F' H H' : Hp} {ρ ρ' : List Addr} {st st' : Store} {x y : V} {d e : D} {p : Addr}
theorem view (s : Sto K F ρ st H) (r : RV K F ρ x d) : View K F ρ H x (rd st d) := by
  cases r with
  | non => rfl
  | bl b => rfl
  | int i => rfl
  | str z => rfl
  | lst a t => exact ⟨_, _, rfl, sqL_mono s.sub a, t⟩
  | tup a t => exact ⟨_, _, rfl, a, t⟩
  | mrf h =>
    rename_i a k
    have rw_ : rd st (mref k) = (match st[k]? with | some (some (.list xs)) => .list xs | _ => mref k) := rfl
    rw [rw_]
    split
    · rename_i ds e
      obtain ⟨_, xs, ds', he, h1, h2, _⟩ := s.ok k a _ h e
      cases he
      exact ⟨a, xs, rfl, .inl (.inl h1), h2⟩
    · trivial
/-- a tuple that is read is the value itself -/
theorem View.rvT {ds : List D} (v : View K F ρ H x (.tuple ds)) : RV K F ρ x (.tuple ds) := by
  obtain ⟨a, xs, rfl, h1, h2⟩ := v
  exact .tup h1 h2
theorem View.dp (v : View K F ρ H x d) (sub : ∀ a o, F a = some o → H a = some o) (h : d.plain = true) : Dp K H x d := by
  cases d with
  | none => cases v; exact .non
  | bool b => cases v; exact .bl b
  | int i => cases v; exact .int i
  | str s => cases v; exact .str s
  | list ds =>
    obtain ⟨a, xs, rfl, h1, h2⟩ := v
    exact .lst h1 ((h2.mono sub fun _ _ h => h).dp (by simpa [PyData.plain] using h))
  | tuple ds =>
    obtain ⟨a, xs, rfl, h1, h2⟩ := v
    exact .tup (sqT_mono sub h1) ((h2.mono sub fun _ _ h => h).dp (by simpa [PyData.plain] using h))
  | dict _ => simp [PyData.plain] at h
/-- only a value that is no name of a list reads as data that is no list -/
theorem View.rv (v : View K F ρ H x d) (h : match d with | .none | .bool _ | .int _ | .str _ => True | _ => False) : RV K F ρ x d := by
  cases d with
  | none => cases v; exact .non
  | bool b => cases v; exact .bl b
  | int i => cases v; exact .int i
  | str s => cases v; exact .str s
  | _ => exact h.elim

/-! ### new objects -/
theorem Sto.fnone (s : Sto K F ρ st H) (h : H p = none) : F p = none := by
  cases e : F p with
  | none => rfl
  | some o => rw [s.sub p o e] at h; cases h
theorem Sto.rho (s : Sto K F ρ st H) (h : H p = none) : p ∉ ρ := fun hm => by
  obtain ⟨k, hk⟩ := List.getElem?_of_mem hm
  obtain ⟨xs, e⟩ := s.at_ k p hk
  rw [h] at e; cases e
/-- H grows by an object that is frozen -/
theorem ext_new (s : Sto K F ρ st H) (h : H p = none) (o : HO) : Ext F ρ H (upd F p o) ρ (upd H p o) where
  frz := fun a u e => by rw [upd_ne (ne_of_none e (s.fnone h))]; exact e
  adr := fun _ _ e => e
  new := fun _ e => .inl e
  keep := fun a u e _ => by rw [upd_ne (ne_of_none e h)]; exact e
  none := fun a e => by
    by_cases q : a = p
    · subst q; rw [upd_same] at e; cases e
    · rw [upd_ne q] at e; exact e
  fnw := fun a u e => by
    by_cases q : a = p
    · subst q; exact .inr (.inl h)
    · rw [upd_ne q] at e; exact .inl e
theorem sto_new (s : Sto K F ρ st H) (h : H p = none) (o : HO) : Sto K (upd F p o) ρ st (upd H p o) where
  sub := fun a u e => by
    by_cases q : a = p
    · subst q; rw [upd_same] at e ⊢; exact e
    · rw [upd_ne q] at e ⊢; exact s.sub a u e
  nd := s.nd
  len := s.len
  at_ := fun k a e => by
    obtain ⟨xs, h1⟩ := s.at_ k a e
    exact ⟨xs, by rw [upd_ne (ne_of_none h1 h)]; exact h1⟩
  ok := fun k a d e1 e2 => by
    obtain ⟨h1, xs, ds, rfl, h2, h3, h4⟩ := s.ok k a d e1 e2
    refine ⟨?_, xs, ds, rfl, ?_, h3.ext (ext_new s h o), h4⟩
    · rw [upd_ne (ne_of_none h2 h)]; exact h1
    · rw [upd_ne (ne_of_none h2 h)]; exact h2
theorem new_lst {xs : List V} {ds : List D} (s : Sto K F ρ st H) (h : H p = none) (r : RVs K F ρ xs ds) : RV K (upd F p (.lst xs)) ρ (.ref p) (.list ds) :=
  .lst (.inl (.inl upd_same)) (r.ext (ext_new s h _))
theorem new_tup {xs : List V} {ds : List D} (s : Sto K F ρ st H) (h : H p = none) (r : RVs K F ρ xs ds) : RV K (upd F p (.tup xs)) ρ (.ref p) (.tuple ds) :=
  .tup (.inl (.inl upd_same)) (r.ext (ext_new s h _))
/-- a new list that may change -/
theorem ext_mut (s : Sto K F ρ st H) (h : H p = none) (o : HO) : Ext F ρ H F (ρ ++ [p]) (upd H p o) where
  frz := fun _ _ e => e
  adr := fun k a e => by rw [List.getElem?_append_left (List.getElem?_eq_some_iff.mp e).1]; exact e
  new := fun a e => by
    rcases List.mem_append.mp e with e | e
    · exact .inl e
    · have : a = p := by simpa using e
      subst this; exact .inr h
  keep := fun a u e _ => by rw [upd_ne (ne_of_none e h)]; exact e
  none := fun a e => by
    by_cases q : a = p
    · subst q; rw [upd_same] at e; cases e
    · rw [upd_ne q] at e; exact e
  fnw := fun _ _ e => .inl e
theorem getElem?_snoc {α : Type} {l : List α} {a b : α} {k : Nat} (h : (l ++ [a])[k]? = some b) : (l[k]? = some b) ∨ (k = l.length ∧ a = b) := by
  by_cases q : k < l.length
  · rw [List.getElem?_append_left q] at h; exact .inl h
  · rw [List.getElem?_append_right (by omega)] at h
    have : k - l.length = 0 := by
      obtain ⟨h1, _⟩ := List.getElem?_eq_some_iff.mp h
      simp at h1; omega
    rw [this] at h
    exact .inr ⟨by omega, by simpa using h⟩
theorem sto_mut {xs : List V} {ds : List D} (s : Sto K F ρ st H) (h : H p = none) (r : RVs K F ρ xs ds) (hp : ds.all (okD 40) = true) : Sto K F (ρ ++ [p]) (st ++ [some (.list ds)]) (upd H p (.lst xs)) where
  sub := fun a u e => by
    have := s.sub a u e
    rw [upd_ne (ne_of_none this h)]; exact this
  nd := by
    rw [List.nodup_append]
    refine ⟨s.nd, by simp, fun a ha b hb e => ?_⟩
    have : b = p := by simpa using hb
    subst this; subst e
    exact s.rho h ha
  len := by simp [s.len]
  at_ := fun k a e => by
    rcases getElem?_snoc e with e | ⟨_, e⟩
    · obtain ⟨ys, h1⟩ := s.at_ k a e
      exact ⟨ys, by rw [upd_ne (ne_of_none h1 h)]; exact h1⟩
    · subst e; exact ⟨xs, upd_same⟩
  ok := fun k a d e1 e2 => by
    rcases getElem?_snoc e1 with e1 | ⟨hk, e1⟩
    · have e2' : st[k]? = some (some d) := by
        rcases getElem?_snoc e2 with e2 | ⟨hk, _⟩
        · exact e2
        · have := (List.getElem?_eq_some_iff.mp e1).1
          rw [hk, s.len] at this; omega
      obtain ⟨h1, ys, es, rfl, h2, h3, h4⟩ := s.ok k a d e1 e2'
      exact ⟨h1, ys, es, rfl, by rw [upd_ne (ne_of_none h2 h)]; exact h2, h3.ext (ext_mut s h (.lst xs)), h4⟩
    · subst e1
      have : d = .list ds := by
        rcases getElem?_snoc e2 with e2 | ⟨_, e2⟩
        · have := (List.getElem?_eq_some_iff.mp e2).1
          rw [hk, ← s.len] at this; omega
        · exact (Option.some.inj e2).symm
      subst this
      exact ⟨s.fnone h, xs, ds, rfl, upd_same, r.ext (ext_mut s h (.lst xs)), hp⟩
theorem new_mut (s : Sto K F ρ st H) : RV K F (ρ ++ [p]) (.ref p) (mref st.length) := .mrf (by rw [s.len]; simp)
/-- a mutable list is written -/
theorem ext_set {k : Nat} {xs : List V} (s : Sto K F ρ st H) (hk : ρ[k]? = some p) : Ext F ρ H F ρ (upd H p (.lst xs)) where
  frz := fun _ _ e => e
  adr := fun _ _ e => e
  new := fun _ e => .inl e
  keep := fun a u e n => by rw [upd_ne (show a ≠ p from fun q => n (by rw [q]; exact List.mem_of_getElem? hk))]; exact e
  none := fun a e => by
    by_cases q : a = p
    · subst q; rw [upd_same] at e; cases e
    · rw [upd_ne q] at e; exact e
  fnw := fun _ _ e => .inl e
theorem sto_set {k : Nat} {d : D} {xs : List V} {ds : List D} (s : Sto K F ρ st H) (hk : ρ[k]? = some p) (hs : st[k]? = some (some d)) (r : RVs K F ρ xs ds) (hp : ds.all (okD 40) = true) : Sto K F ρ (st.set k (some (.list ds))) (upd H p (.lst xs)) where
  sub := fun a u e => by
    have q : a ≠ p := fun q => by
      subst q
      rw [(s.ok k a d hk hs).1] at e; cases e
    rw [upd_ne q]; exact s.sub a u e
  nd := s.nd
  len := by simp [s.len]
  at_ := fun j a e => by
    by_cases q : a = p
    · subst q; exact ⟨xs, upd_same⟩
    · rw [upd_ne q]; exact s.at_ j a e
  ok := fun j a d' e1 e2 => by
    by_cases q : j = k
    · subst q
      rw [hk] at e1; cases e1
      rw [List.getElem?_set_self (List.getElem?_eq_some_iff.mp hs).1] at e2
      cases e2
      exact ⟨(s.ok j p d hk hs).1, xs, ds, rfl, upd_same, r, hp⟩
    · rw [List.getElem?_set_ne (Ne.symm q)] at e2
      obtain ⟨h1, ys, es, rfl, h2, h3, h4⟩ := s.ok j a d' e1 e2
      have : a ≠ p := fun z => by
        subst z
        have i1 := List.getElem?_eq_some_iff.mp e1
        have i2 := List.getElem?_eq_some_iff.mp hk
        obtain ⟨b1, c1⟩ := i1
        obtain ⟨b2, c2⟩ := i2
        exact q ((List.getElem_inj s.nd).mp (c1.trans c2.symm))
      exact ⟨h1, ys, es, rfl, by rw [upd_ne this]; exact h2, h3, h4⟩
/-- a mutable list is frozen -/
theorem sto_frz {k : Nat} {xs : List V} (s : Sto K F ρ st H) (hk : ρ[k]? = some p) (hf : F p = none) (hh : H p = some (.lst xs)) : Sto K (upd F p (.lst xs)) ρ (st.set k none) H where
  sub := fun a u e => by
    by_cases q : a = p
    · subst q; rw [upd_same] at e; cases e; exact hh
    · rw [upd_ne q] at e; exact s.sub a u e
  nd := s.nd
  len := by simp [s.len]
  at_ := s.at_
  ok := fun j a d' e1 e2 => by
    by_cases q : j = k
    · subst q
      by_cases hl : j < st.length
      · rw [List.getElem?_set_self hl] at e2; cases e2
      · rw [List.getElem?_eq_none (by simpa using hl)] at e2; cases e2
    · rw [List.getElem?_set_ne (Ne.symm q)] at e2
      obtain ⟨h1, ys, es, rfl, h2, h3, h4⟩ := s.ok j a d' e1 e2
      have : a ≠ p := fun z => by
        subst z
        obtain ⟨b1, c1⟩ := List.getElem?_eq_some_iff.mp e1
        obtain ⟨b2, c2⟩ := List.getElem?_eq_some_iff.mp hk
        exact q ((List.getElem_inj s.nd).mp (c1.trans c2.symm))
      refine ⟨by rw [upd_ne this]; exact h1, ys, es, rfl, h2, h3.mono (fun b u e => ?_) (fun _ _ e => e), h4⟩
      by_cases z : b = p
      · subst z; rw [hf] at e; cases e
      · rw [upd_ne z]; exact e
theorem ext_frz {k : Nat} {xs : List V} (hk : ρ[k]? = some p) (hf : F p = none) : Ext F ρ H (upd F p (.lst xs)) ρ H where
  frz := fun a u e => by
    by_cases z : a = p
    · subst z; rw [hf] at e; cases e
    · rw [upd_ne z]; exact e
  adr := fun _ _ e => e
  new := fun _ e => .inl e
  keep := fun a u e _ => e
  none := fun a e => e
  fnw := fun a u e => by
    by_cases q : a = p
    · subst q; exact .inr (.inr (List.mem_of_getElem? hk))
    · rw [upd_ne q] at e; exact .inl e
end
end MP

set_option Elab.async false
set_option linter.all false
set_option maxRecDepth 100000
set_option maxHeartbeats 4000000
set_option exponentiation.threshold 100000
/-! MpBin: two-place operators. Own work. -/
namespace MP
open PySem PySem.Spec PyProof.Rows L2

/-- what an operation on values gives: none where the mirror says nothing -/
abbrev G2 := D → D → Option D
def opR (K : Frag) (g : G2) : R2 := fun x y H Q => ∃ F ρ st d e z, Sto K F ρ st H ∧ RV K F ρ x d ∧ RV K F ρ y e ∧ g (rd st d) (rd st e) = some z ∧
  ∀ F' ρ' H' v, Ext F ρ H F' ρ' H' → Sto K F' ρ' st H' → RV K F' ρ' v z → Q v H'
/-- the largest factor -/
def big : Nat := 2 ^ 50000
theorem big_lt {n k : Nat} (h : n < 2 ^ k) (hk : k ≤ 50000) : n < big := Nat.lt_of_lt_of_le h (Nat.pow_le_pow_right (by decide) hk)
def gAdd : G2
  | .int i, .int j => some (.int (i + j))
  | .str x, .str y => if x.length + y.length ≤ 16777216 then some (.str (x ++ y)) else none
  | .list xs, .list ys => if xs.length + ys.length ≤ 16777216 then some (.list (xs ++ ys)) else none
  | .tuple xs, .tuple ys => if xs.length + ys.length ≤ 16777216 then some (.tuple (xs ++ ys)) else none
  | _, _ => none
def gSub : G2
  | .int i, .int j => some (.int (i - j))
  | _, _ => none
def gMul : G2
  | .int i, .int j => if i.natAbs < big ∧ j.natAbs < big then some (.int (i * j)) else none
  | .tuple xs, .int k => if xs ≠ [] ∧ 2 ≤ k ∧ k ≤ 1000 ∧ xs.length ≤ 1000 then some (.tuple (List.replicate k.toNat xs).flatten) else none
  | _, _ => none
def gDiv : G2
  | .int i, .int j => if j ≠ 0 ∧ j.natAbs < 2 ^ 8999 then some (.int (i.fdiv j)) else none
  | _, _ => none
def gMod : G2
  | .int i, .int j => if j ≠ 0 then some (.int (i.fmod j)) else none
  | _, _ => none
def gPow : G2
  | .int i, .int j => if 0 ≤ j ∧ j ≤ 1000 ∧ i.natAbs < big then some (.int (i ^ j.toNat)) else none
  | _, _ => none

section
variable {X : Cx}
theorem line_eq : sizeLine = 16777216 := sizeLine_eq
theorem log2_lt_big {n : Nat} (h : n < big) : n.log2 ≤ 50000 := by
  by_cases h0 : n = 0
  · subst h0; decide
  · have := (Nat.log2_lt h0).mpr (show n < 2 ^ 50000 from h)
    omega
theorem log2_lt_of' {n k : Nat} (h : n < 2 ^ k) : n.log2 ≤ k := by
  by_cases h0 : n = 0
  · subst h0; rw [show Nat.log2 0 = 0 by decide]; omega
  · have := (Nat.log2_lt h0).mpr h
    omega
/-- a scalar comes back -/
theorem back {K : Frag} {F : Hp} {ρ : List Addr} {st : Store} {H : Hp} {z : D} {Q : VK} {v : V} (s : Sto K F ρ st H) (q : ∀ F' ρ' H' v, Ext F ρ H F' ρ' H' → Sto K F' ρ' st H' → RV K F' ρ' v z → Q v H') (r : RV K F ρ v z) : Q v H :=
  q F ρ H v .refl s r
theorem back_lst {K : Frag} {F : Hp} {ρ : List Addr} {st : Store} {H : Hp} {ds : List D} {xs : List V} {Q : VK} {p : Addr} (s : Sto K F ρ st H) (hp : H p = none) (r : RVs K F ρ xs ds)
    (q : ∀ F' ρ' H' v, Ext F ρ H F' ρ' H' → Sto K F' ρ' st H' → RV K F' ρ' v (.list ds) → Q v H') : Q (.ref p) (upd H p (.lst xs)) :=
  q _ _ _ _ (ext_new s hp _) (sto_new s hp _) (new_lst s hp r)
theorem back_tup {K : Frag} {F : Hp} {ρ : List Addr} {st : Store} {H : Hp} {ds : List D} {xs : List V} {Q : VK} {p : Addr} (s : Sto K F ρ st H) (hp : H p = none) (r : RVs K F ρ xs ds)
    (q : ∀ F' ρ' H' v, Ext F ρ H F' ρ' H' → Sto K F' ρ' st H' → RV K F' ρ' v (.tuple ds) → Q v H') : Q (.ref p) (upd H p (.tup xs)) :=
  q _ _ _ _ (ext_new s hp _) (sto_new s hp _) (new_tup s hp r)
/-- list + list, whatever lists -/
theorem op_catL : OpR X (binaryOp .Add) (fun x y H Q => ∃ a b xs ys, x = .ref a ∧ y = .ref b ∧ SqL X.K H a xs ∧ SqL X.K H b ys ∧ xs.length + ys.length ≤ sizeLine ∧ ∀ p, H p = none → Q (.ref p) (upd H p (.lst (xs ++ ys)))) := by
  intro pins s σ H x y v u Q I rx ry h
  obtain ⟨a, b, xs, ys, rfl, rfl, h1, h2, hz, q⟩ := h
  cases rx
  cases ry
  obtain ⟨its, r1, ⟨⟨c1, d1, da1, sl1⟩, n1, e1, hc1, hd1, hs1⟩, z1⟩ := I.list h1
  obtain ⟨its2, r2, ⟨⟨c2, d2, da2, sl2⟩, n2, e2, hc2, hd2, hs2⟩, z2⟩ := I.list h2
  simp only at hc1 hd1 hs1 hc2 hd2 hs2
  subst hc1 hd1 hs1 hc2 hd2 hs2
  have l1 := r1.length
  have l2 := r2.length
  have e : its.toArray ++ its2.toArray = (its ++ its2).toArray := by simp
  refine concat_meets ⟨_, e1, rfl⟩ ⟨_, e2, rfl⟩ noFill_list_add seq_list_add PySem.F.slot_list_add PySem.F.entry_list_add (PySem.F.args_list_add_2 _ _) (list_addW a b its.toArray its2.toArray n1 n2 none none sl1 sl2 (by simp only [List.size_toArray]; omega)) ⟨e1, e2, ?_⟩
  rw [e]
  exact ⟨.ref _, _, I.lnew (t' := s.toks) (r1.append r2) (by rw [List.length_append]; omega), rfl, q _ I.fresh⟩
theorem ok_add : OpR X (binaryOp .Add) (opR X.K gAdd) := by
  intro pins s σ H x y v u Q I rx ry h
  obtain ⟨F, ρ, st, d, e, z, S, r1, r2, hg, q⟩ := h
  have v1 := view S r1
  have v2 := view S r2
  generalize rd st d = d' at *
  generalize rd st e = e' at *
  unfold gAdd at hg
  split at hg
  · cases v1; cases v2; cases hg
    exact L2.op_add pins s σ H _ _ v u Q I rx ry ⟨_, _, rfl, rfl, back S q (.int _)⟩
  · cases v1; cases v2
    split at hg
    · cases hg
      exact op_add_str pins s σ H _ _ v u Q I rx ry ⟨_, _, rfl, rfl, by rw [line_eq]; assumption, back S q (.str _)⟩
    · cases hg
  · obtain ⟨a, xs, rfl, h1, h2⟩ := v1
    obtain ⟨b, ys, rfl, h3, h4⟩ := v2
    split at hg
    · cases hg
      exact op_catL pins s σ H _ _ v u Q I rx ry ⟨a, b, xs, ys, rfl, rfl, h1, h3, by rw [line_eq, h2.length, h4.length]; assumption, fun p hp => back_lst S hp (h2.append h4) q⟩
    · cases hg
  · have t1 := v1.rvT
    have t2 := v2.rvT
    obtain ⟨a, xs, rfl, h1, h2⟩ := v1
    obtain ⟨b, ys, rfl, h3, h4⟩ := v2
    split at hg
    · cases hg
      refine op_catA pins s σ H _ _ v u Q I rx ry ⟨a, b, xs, ys, rfl, rfl, sqT_mono S.sub h1, sqT_mono S.sub h3, by rw [line_eq, h2.length, h4.length]; assumption, fun e => ?_, fun _ e => ?_, fun _ _ p hp => back_tup S hp (h2.append h4) q⟩
      · subst e; cases h2
        exact back S q (by simpa using t2)
      · subst e; cases h4
        exact back S q (by simpa using t1)
    · cases hg
  · cases hg
theorem ok_sub : OpR X (binaryOp .Sub) (opR X.K gSub) := by
  intro pins s σ H x y v u Q I rx ry h
  obtain ⟨F, ρ, st, d, e, z, S, r1, r2, hg, q⟩ := h
  have v1 := view S r1
  have v2 := view S r2
  generalize rd st d = d' at *
  generalize rd st e = e' at *
  unfold gSub at hg
  split at hg
  · cases v1; cases v2; cases hg
    exact L2.op_sub pins s σ H _ _ v u Q I rx ry ⟨_, _, rfl, rfl, back S q (.int _)⟩
  · cases hg
theorem ok_div : OpR X (binaryOp .FloorDiv) (opR X.K gDiv) := by
  intro pins s σ H x y v u Q I rx ry h
  obtain ⟨F, ρ, st, d, e, z, S, r1, r2, hg, q⟩ := h
  have v1 := view S r1
  have v2 := view S r2
  generalize rd st d = d' at *
  generalize rd st e = e' at *
  unfold gDiv at hg
  split at hg
  · cases v1; cases v2
    split at hg
    · rename_i i j hc
      cases hg
      obtain ⟨t, rfl⟩ := rx
      obtain ⟨t', rfl⟩ := ry
      have hl : j.natAbs.log2 < 9000 := Nat.lt_of_le_of_lt (log2_lt_of' hc.2) (by decide)
      exact floordiv_int hc.1 ⟨.int _, H, I.tok _, ⟨_, rfl⟩, back S q (.int _)⟩ (.inl (PyProof.noPylong_of_log2 hl))
    · cases hg
  · cases hg
theorem ok_mod : OpR X (binaryOp .Mod) (opR X.K gMod) := by
  intro pins s σ H x y v u Q I rx ry h
  obtain ⟨F, ρ, st, d, e, z, S, r1, r2, hg, q⟩ := h
  have v1 := view S r1
  have v2 := view S r2
  generalize rd st d = d' at *
  generalize rd st e = e' at *
  unfold gMod at hg
  split at hg
  · cases v1; cases v2
    split at hg
    · rename_i i j hc
      cases hg
      obtain ⟨t, rfl⟩ := rx
      obtain ⟨t', rfl⟩ := ry
      exact mod_int' hc ⟨.int _, H, I.tok _, ⟨_, rfl⟩, back S q (.int _)⟩
    · cases hg
  · cases hg
theorem intBits_le (i : Int) : Builtin.Int.intBits i ≤ i.natAbs.log2 + 1 := by
  unfold Builtin.Int.intBits
  split <;> omega
theorem ok_pow : OpR X (binaryOp .Pow) (opR X.K gPow) := by
  intro pins s σ H x y v u Q I rx ry h
  obtain ⟨F, ρ, st, d, e, z, S, r1, r2, hg, q⟩ := h
  have v1 := view S r1
  have v2 := view S r2
  generalize rd st d = d' at *
  generalize rd st e = e' at *
  unfold gPow at hg
  split at hg
  · cases v1; cases v2
    split at hg
    · rename_i i j hc
      cases hg
      obtain ⟨t, rfl⟩ := rx
      obtain ⟨t', rfl⟩ := ry
      refine PyProof.Rows.pow_int hc.1 ?_ ⟨.int _, H, I.tok _, ⟨_, rfl⟩, back S q (.int _)⟩
      have h1 := intBits_le i
      have h2 := log2_lt_big hc.2.2
      have h3 : (Builtin.Int.intBits i : Int) ≤ 50001 := by omega
      have h4 : (Builtin.Int.intBits i : Int) * j ≤ 50001 * j := Int.mul_le_mul_of_nonneg_right h3 hc.1
      have h5 := hc.2.1
      omega
    · cases hg
  · cases hg
theorem ok_mul : OpR X (binaryOp .Mult) (opR X.K gMul) := by
  intro pins s σ H x y v u Q I rx ry h
  obtain ⟨F, ρ, st, d, e, z, S, r1, r2, hg, q⟩ := h
  have v1 := view S r1
  have v2 := view S r2
  generalize rd st d = d' at *
  generalize rd st e = e' at *
  unfold gMul at hg
  split at hg
  · cases v1; cases v2
    split at hg
    · rename_i i j hc
      cases hg
      refine op_mulW pins s σ H _ _ v u Q I rx ry ⟨i, j, rfl, rfl, ?_, back S q (.int _)⟩
      have h1 := log2_lt_big hc.1
      have h2 := log2_lt_big hc.2
      unfold CMulW
      omega
    · cases hg
  · obtain ⟨a, xs, rfl, h1, h2⟩ := v1
    cases v2
    split at hg
    · rename_i ds k hc
      cases hg
      refine op_repT pins s σ H _ _ v u Q I rx ry ⟨a, k, xs, rfl, rfl, sqT_mono S.sub h1, fun e => hc.1 ?_, hc.2.1, hc.2.2.1, by rw [h2.length]; exact hc.2.2.2, fun p hp => back_tup S hp ?_ q⟩
      · subst e; cases h2; rfl
      · have : ∀ n, RVs X.K F ρ (List.replicate n xs).flatten (List.replicate n ds).flatten := fun n => by
          induction n with
          | zero => exact .nil
          | succ n ih => simp only [List.replicate_succ, List.flatten_cons]; exact h2.append ih
        exact this _
    · cases hg
  · cases hg
end
end MP

set_option Elab.async false
set_option linter.all false
set_option maxRecDepth 100000
set_option maxHeartbeats 4000000
/-! MpCmp: comparisons, tests of being in, of being the same; truth. Own work. -/
namespace MP
open PySem PySem.Spec PyProof.Rows L2
def gEq : G2 := fun d e => if okD 40 d = true ∧ okD 40 e = true then some (.bool (PyData.eqv d e)) else none
def gNe : G2 := fun d e => if okD 40 d = true ∧ okD 40 e = true then some (.bool (!PyData.eqv d e)) else none
def notNone : D → Bool
  | .none => false
  | _ => true
abbrev cmpOk (d e : D) : Prop := okD 40 d = true ∧ okD 40 e = true ∧ PySem.W.alike d e = true ∧ notNone d = true
def gLtD (d e : D) : Option D := if cmpOk d e then some (.bool (PySem.W.dataLt d e)) else none
def gLt : G2
  | .int i, .int j => some (.bool (decide (i < j)))
  | d, e => gLtD d e
def gGtD (d e : D) : Option D := if cmpOk d e then some (.bool (PySem.W.dataLt e d)) else none
def gGt : G2
  | .int i, .int j => some (.bool (decide (j < i)))
  | d, e => gGtD d e
def gLeD (d e : D) : Option D := if cmpOk d e then some (.bool (!PySem.W.dataLt e d)) else none
def gLe : G2
  | .int i, .int j => some (.bool (decide (i ≤ j)))
  | d, e => gLeD d e
def gGeD (d e : D) : Option D := if cmpOk d e then some (.bool (!PySem.W.dataLt d e)) else none
def gGe : G2
  | .int i, .int j => some (.bool (decide (j ≤ i)))
  | d, e => gGeD d e
def isIn (d e : D) : Option Bool :=
  match e with
  | .list xs => if okD 40 d = true ∧ xs.all (okD 40) = true then some (xs.any fun y => PyData.eqv y d) else none
  | .tuple xs => if okD 40 d = true ∧ xs.all (okD 40) = true then some (xs.any fun y => PyData.eqv y d) else none
  | .str y => match d with
    | .str x => some (!(Builtin.Str.occurrences y x 0 y.length 1).isEmpty)
    | _ => none
  | _ => none
def gIn : G2 := fun d e => (isIn d e).map .bool
def gNotIn : G2 := fun d e => (isIn d e).map fun b => .bool !b
def isIs (d e : D) : Option Bool :=
  match e with
  | .none => match d with
    | .none => some true
    | .dict _ => none
    | _ => some false
  | .bool b => match d with
    | .bool a => some (decide (a = b))
    | _ => none
  | _ => none
def gIs : G2 := fun d e => (isIs d e).map .bool
def gIsNot : G2 := fun d e => (isIs d e).map fun b => .bool !b
/-- the comparison of an operator -/
def gCmp : CmpOp → G2
  | .Eq => gEq | .NotEq => gNe | .Lt => gLt | .LtE => gLe | .Gt => gGt | .GtE => gGe | .Is => gIs | .IsNot => gIsNot | .In => gIn | .NotIn => gNotIn

section
variable {X : Cx}
theorem cmp_reads {pins : List (Addr × Obj)} {s : Shared} {σ : L2.St} {H : Hp} {x : V} {v : Value} {F : Hp} {ρ : List Addr} {st : Store} {d : D} {n : Nat} (I : L2.Inv X pins σ H s) (S : Sto X.K F ρ st H) (rx : RelV x v)
    (w : View X.K F ρ H x d) (h : okD n d = true) : ∃ as, Reads s.heap v d as := Dp.reads I d x v (w.dp S.sub (okD_plain n d h)) rx
theorem ok_eq (hu : X.A.units + 100 < cLine) : OpR X (compareOp .Eq) (opR X.K gEq) := by
  intro pins s σ H x y v u Q I rx ry h
  obtain ⟨F, ρ, st, d, e, z, S, r1, r2, hg, q⟩ := h
  have v1 := view S r1
  have v2 := view S r2
  generalize rd st d = d' at *
  generalize rd st e = e' at *
  unfold gEq at hg
  split at hg
  · rename_i hc
    cases hg
    obtain ⟨as, a1⟩ := cmp_reads I S rx v1 hc.1
    obtain ⟨bs, a2⟩ := cmp_reads I S ry v2 hc.2
    have n1 := okD_depth _ _ hc.1
    exact PySem.SeqAt.eq_plain a1 a2 (okD_plain _ _ hc.1) (okD_plain _ _ hc.2) (by omega) ⟨.bl _, H, I, rfl, back S q (.bl _)⟩
  · cases hg
theorem ok_ne (hu : X.A.units + 100 < cLine) : OpR X (compareOp .NotEq) (opR X.K gNe) := by
  intro pins s σ H x y v u Q I rx ry h
  obtain ⟨F, ρ, st, d, e, z, S, r1, r2, hg, q⟩ := h
  have v1 := view S r1
  have v2 := view S r2
  generalize rd st d = d' at *
  generalize rd st e = e' at *
  unfold gNe at hg
  split at hg
  · rename_i hc
    cases hg
    obtain ⟨as, a1⟩ := cmp_reads I S rx v1 hc.1
    obtain ⟨bs, a2⟩ := cmp_reads I S ry v2 hc.2
    have n1 := okD_depth _ _ hc.1
    exact PySem.SeqAt.ne_plain a1 a2 (okD_plain _ _ hc.1) (okD_plain _ _ hc.2) (by omega) ⟨.bl _, H, I, rfl, back S q (.bl _)⟩
  · cases hg
theorem nn_of {d : D} (h : notNone d = true) : d ≠ .none := by rintro rfl; cases h
theorem ok_lt (hu : X.A.units + 100 < cLine) : OpR X (compareOp .Lt) (opR X.K gLt) := by
  intro pins s σ H x y v u Q I rx ry h
  obtain ⟨F, ρ, st, d, e, z, S, r1, r2, hg, q⟩ := h
  have v1 := view S r1
  have v2 := view S r2
  generalize rd st d = d' at *
  generalize rd st e = e' at *
  unfold gLt at hg
  split at hg
  · cases v1; cases v2; cases hg
    exact L2.op_lt pins s σ H _ _ v u Q I rx ry ⟨_, _, rfl, rfl, back S q (.bl _)⟩
  · unfold gLtD at hg
    split at hg
    · rename_i hc
      cases hg
      obtain ⟨c1, c2, c3, c4⟩ := hc
      obtain ⟨as, a1⟩ := cmp_reads I S rx v1 c1
      obtain ⟨bs, a2⟩ := cmp_reads I S ry v2 c2
      have n1 := okD_depth _ _ c1
      exact PySem.W.lt_data a1 a2 c3 (nn_of c4) (by omega) ⟨.bl _, H, I, rfl, back S q (.bl _)⟩
    · cases hg
theorem ok_gt (hu : X.A.units + 100 < cLine) : OpR X (compareOp .Gt) (opR X.K gGt) := by
  intro pins s σ H x y v u Q I rx ry h
  obtain ⟨F, ρ, st, d, e, z, S, r1, r2, hg, q⟩ := h
  have v1 := view S r1
  have v2 := view S r2
  generalize rd st d = d' at *
  generalize rd st e = e' at *
  unfold gGt at hg
  split at hg
  · cases v1; cases v2; cases hg
    exact L2.op_gt pins s σ H _ _ v u Q I rx ry ⟨_, _, rfl, rfl, back S q (.bl _)⟩
  · unfold gGtD at hg
    split at hg
    · rename_i hc
      cases hg
      obtain ⟨c1, c2, c3, c4⟩ := hc
      obtain ⟨as, a1⟩ := cmp_reads I S rx v1 c1
      obtain ⟨bs, a2⟩ := cmp_reads I S ry v2 c2
      have n1 := okD_depth _ _ c1
      exact PySem.W.gt_data a1 a2 c3 (nn_of c4) (by omega) ⟨.bl _, H, I, rfl, back S q (.bl _)⟩
    · cases hg
theorem ok_le (hu : X.A.units + 100 < cLine) : OpR X (compareOp .LtE) (opR X.K gLe) := by
  intro pins s σ H x y v u Q I rx ry h
  obtain ⟨F, ρ, st, d, e, z, S, r1, r2, hg, q⟩ := h
  have v1 := view S r1
  have v2 := view S r2
  generalize rd st d = d' at *
  generalize rd st e = e' at *
  unfold gLe at hg
  split at hg
  · cases v1; cases v2; cases hg
    exact L2.op_le pins s σ H _ _ v u Q I rx ry ⟨_, _, rfl, rfl, back S q (.bl _)⟩
  · unfold gLeD at hg
    split at hg
    · rename_i hc
      cases hg
      obtain ⟨c1, c2, c3, c4⟩ := hc
      obtain ⟨as, a1⟩ := cmp_reads I S rx v1 c1
      obtain ⟨bs, a2⟩ := cmp_reads I S ry v2 c2
      have n1 := okD_depth _ _ c1
      exact PySem.W.le_data a1 a2 c3 (nn_of c4) (by omega) ⟨.bl _, H, I, rfl, back S q (.bl _)⟩
    · cases hg
theorem ok_ge (hu : X.A.units + 100 < cLine) : OpR X (compareOp .GtE) (opR X.K gGe) := by
  intro pins s σ H x y v u Q I rx ry h
  obtain ⟨F, ρ, st, d, e, z, S, r1, r2, hg, q⟩ := h
  have v1 := view S r1
  have v2 := view S r2
  generalize rd st d = d' at *
  generalize rd st e = e' at *
  unfold gGe at hg
  split at hg
  · cases v1; cases v2; cases hg
    exact L2.op_ge pins s σ H _ _ v u Q I rx ry ⟨_, _, rfl, rfl, back S q (.bl _)⟩
  · unfold gGeD at hg
    split at hg
    · rename_i hc
      cases hg
      obtain ⟨c1, c2, c3, c4⟩ := hc
      obtain ⟨as, a1⟩ := cmp_reads I S rx v1 c1
      obtain ⟨bs, a2⟩ := cmp_reads I S ry v2 c2
      have n1 := okD_depth _ _ c1
      exact PySem.W.ge_data a1 a2 c3 (nn_of c4) (by omega) ⟨.bl _, H, I, rfl, back S q (.bl _)⟩
    · cases hg
theorem ok_in_any (hu : X.A.units + 100 < cLine) (neg : Bool) : OpR X (compareOp (if neg then .NotIn else .In)) (opR X.K fun d e => (isIn d e).map fun b => .bool (if neg then !b else b)) := by
  intro pins s σ H x y v u Q I rx ry h
  obtain ⟨F, ρ, st, d, e, z, S, r1, r2, hg, q⟩ := h
  have v1 := view S r1
  have v2 := view S r2
  generalize rd st d = d' at *
  generalize rd st e = e' at *
  obtain ⟨b, hb, rfl⟩ := Option.map_eq_some_iff.mp hg
  unfold isIn at hb
  split at hb
  · split at hb
    · rename_i xs hc
      cases hb
      obtain ⟨as, a1⟩ := cmp_reads I S rx v1 hc.1
      obtain ⟨p1, p2⟩ := okD_all hc.2
      obtain ⟨bs, a2⟩ := cmp_reads (n := 41) I S ry v2 (by simpa [okD] using hc.2)
      have n1 := okD_depth _ _ hc.1
      cases neg with
      | true => exact PySem.SeqAt.notIn_list_data a2 a1 p1 (okD_plain _ _ hc.1) (by omega) ⟨.bl _, H, I, rfl, back S q (.bl _)⟩
      | false => exact PySem.SeqAt.in_list_data a2 a1 p1 (okD_plain _ _ hc.1) (by omega) ⟨.bl _, H, I, rfl, back S q (.bl _)⟩
    · cases hb
  · split at hb
    · rename_i xs hc
      cases hb
      obtain ⟨as, a1⟩ := cmp_reads I S rx v1 hc.1
      obtain ⟨p1, p2⟩ := okD_all hc.2
      obtain ⟨bs, a2⟩ := cmp_reads (n := 41) I S ry v2 (by simpa [okD] using hc.2)
      have n1 := okD_depth _ _ hc.1
      cases neg with
      | true => exact PySem.SeqAt.notIn_tuple_data a2 a1 p1 (okD_plain _ _ hc.1) (by omega) ⟨.bl _, H, I, rfl, back S q (.bl _)⟩
      | false => exact PySem.SeqAt.in_tuple_data a2 a1 p1 (okD_plain _ _ hc.1) (by omega) ⟨.bl _, H, I, rfl, back S q (.bl _)⟩
    · cases hb
  · split at hb
    · cases hb
      cases v1; cases v2
      cases neg with
      | true => exact L2.op_notin_str pins s σ H _ _ v u Q I rx ry ⟨_, _, rfl, rfl, back S q (.bl _)⟩
      | false => exact L2.op_in_str pins s σ H _ _ v u Q I rx ry ⟨_, _, rfl, rfl, back S q (.bl _)⟩
    · cases hb
  · cases hb
theorem ok_in (hu : X.A.units + 100 < cLine) : OpR X (compareOp .In) (opR X.K gIn) := ok_in_any hu false
theorem ok_notIn (hu : X.A.units + 100 < cLine) : OpR X (compareOp .NotIn) (opR X.K gNotIn) := ok_in_any hu true
theorem ok_is : OpR X (compareOp .Is) (opR X.K gIs) := by
  intro pins s σ H x y v u Q I rx ry h
  obtain ⟨F, ρ, st, d, e, z, S, r1, r2, hg, q⟩ := h
  have v1 := view S r1
  have v2 := view S r2
  generalize rd st d = d' at *
  generalize rd st e = e' at *
  obtain ⟨b, hb, rfl⟩ := Option.map_eq_some_iff.mp hg
  unfold isIs at hb
  have fin : ∀ c : Bool, decide (x = V.non) = c → Q (.bl c) H → Q (.bl (decide (x = V.non))) H := fun c e h => by rw [e]; exact h
  split at hb
  · cases v2
    refine L2.op_isN pins s σ H _ _ v u Q I rx ry ⟨rfl, fin b ?_ (back S q (.bl _))⟩
    split at hb <;> cases hb
    · cases v1; rfl
    · cases d' with
      | none => rename_i h1 h2; exact absurd rfl h1
      | dict k => rename_i h1 h2; exact absurd rfl (h2 k)
      | bool k => cases v1; rfl
      | int k => cases v1; rfl
      | str k => cases v1; rfl
      | list k => obtain ⟨a, xs, rfl, _⟩ := v1; rfl
      | tuple k => obtain ⟨a, xs, rfl, _⟩ := v1; rfl
  · split at hb <;> cases hb
    cases v1; cases v2
    exact L2.op_isBl pins s σ H _ _ v u Q I rx ry ⟨_, _, rfl, rfl, back S q (.bl _)⟩
  · cases hb
theorem ok_isNot : OpR X (compareOp .IsNot) (opR X.K gIsNot) := by
  intro pins s σ H x y v u Q I rx ry h
  obtain ⟨F, ρ, st, d, e, z, S, r1, r2, hg, q⟩ := h
  have v1 := view S r1
  have v2 := view S r2
  generalize rd st d = d' at *
  generalize rd st e = e' at *
  obtain ⟨b, hb, rfl⟩ := Option.map_eq_some_iff.mp hg
  unfold isIs at hb
  have fin : ∀ c : Bool, decide (x = V.non) = c → Q (.bl !c) H → Q (.bl (!decide (x = V.non))) H := fun c e h => by rw [e]; exact h
  split at hb
  · cases v2
    refine L2.op_notN pins s σ H _ _ v u Q I rx ry ⟨rfl, fin b ?_ (back S q (.bl _))⟩
    split at hb <;> cases hb
    · cases v1; rfl
    · cases d' with
      | none => rename_i h1 h2; exact absurd rfl h1
      | dict k => rename_i h1 h2; exact absurd rfl (h2 k)
      | bool k => cases v1; rfl
      | int k => cases v1; rfl
      | str k => cases v1; rfl
      | list k => obtain ⟨a, xs, rfl, _⟩ := v1; rfl
      | tuple k => obtain ⟨a, xs, rfl, _⟩ := v1; rfl
  · split at hb <;> cases hb
    cases v1; cases v2
    exact L2.op_notBl pins s σ H _ _ v u Q I rx ry ⟨_, _, rfl, rfl, back S q (.bl _)⟩
  · cases hb
theorem ok_cmp (hu : X.A.units + 100 < cLine) : ∀ op : CmpOp, OpR X (compareOp op) (opR X.K (gCmp op))
  | .Eq => ok_eq hu | .NotEq => ok_ne hu | .Lt => ok_lt hu | .LtE => ok_le hu | .Gt => ok_gt hu | .GtE => ok_ge hu | .Is => ok_is | .IsNot => ok_isNot | .In => ok_in hu | .NotIn => ok_notIn hu
/-- truth -/
def gTru : D → Option Bool
  | .none => some false
  | .bool b => some b
  | .int i => some (i != 0)
  | .str x => if x.length ≤ 16777216 then some ((x.length : Int) != 0) else none
  | .list xs => some (!xs.isEmpty)
  | .tuple xs => some (!xs.isEmpty)
  | .dict _ => none
theorem ok_tru : TruR X (fun x H Q => ∃ F ρ st d b, Sto X.K F ρ st H ∧ RV X.K F ρ x d ∧ gTru (rd st d) = some b ∧ (∀ F' ρ' H', Ext F ρ H F' ρ' H' → Sto X.K F' ρ' st H' → Q b H')) := by
  intro pins s σ H x v Q I rx h
  obtain ⟨F, ρ, st, d, b, S, r, hg, q⟩ := h
  have v1 := view S r
  generalize rd st d = d' at *
  refine tru_ok pins s σ H x v Q I rx ⟨b, ?_, q F ρ H .refl S⟩
  have em : ∀ {vs : List V} {ds : List D}, RVs X.K F ρ vs ds → (!ds.isEmpty) = !vs.isEmpty := fun r => by cases r <;> rfl
  cases d' with
  | none => cases v1; cases hg; rfl
  | bool k => cases v1; cases hg; rfl
  | int k => cases v1; cases hg; rfl
  | str k =>
    cases v1
    have hg' : (if k.length ≤ 16777216 then some ((k.length : Int) != 0) else none) = some b := hg
    by_cases hz : k.length ≤ 16777216
    · rw [if_pos hz] at hg'; cases hg'; exact ⟨by rw [line_eq]; exact hz, rfl⟩
    · rw [if_neg hz] at hg'; cases hg'
  | list k => obtain ⟨a, xs, rfl, h1, h2⟩ := v1; cases hg; exact .inl ⟨xs, h1, em h2⟩
  | tuple k => obtain ⟨a, xs, rfl, h1, h2⟩ := v1; cases hg; exact .inr (.inl ⟨xs, sqT_mono S.sub h1, em h2⟩)
  | dict k => cases hg
end
end MP

set_option Elab.async false
set_option linter.all false
set_option maxRecDepth 100000
set_option maxHeartbeats 4000000
/-! MpExp: expressions. Own work. -/
namespace MP
open PySem PySem.Spec PyProof.Rows L2
def ofOpt {α : Type} (o : Option α) (st : Store) : Res α := match o with
  | some a => .ok a st
  | none => .stuck
@[simp] theorem ofOpt_some {α : Type} (a : α) (st : Store) : ofOpt (some a) st = .ok a st := rfl
@[simp] theorem ofOpt_none {α : Type} (st : Store) : ofOpt (none : Option α) st = .stuck := rfl
theorem bind_ok {α β : Type} {r : Res α} {f : α → Store → Res β} {b : β} {st' : Store} (h : r.bind f = .ok b st') : ∃ a st, r = .ok a st ∧ f a st = .ok b st' := by
  cases r with
  | ok a st => exact ⟨a, st, rfl, h⟩
  | exn c v st => cases h
  | stuck => cases h
theorem ofOpt_ok {α : Type} {o : Option α} {st st' : Store} {a : α} (h : ofOpt o st = .ok a st') : o = some a ∧ st' = st := by
  cases o with
  | none => cases h
  | some b => cases h; exact ⟨rfl, rfl⟩

def var (i : Nat) : ME := fun ls st => match ls[i]? with
  | some (some d) => .ok d st
  | _ => .stuck
def cst (d : D) : ME := fun _ st => .ok d st
def bin (g : G2) (a b : ME) : ME := fun ls st => (a ls st).bind fun x st1 => (b ls st1).bind fun y st2 => ofOpt (g (rd st2 x) (rd st2 y)) st2
def una (g : D → Option D) (a : ME) : ME := fun ls st => (a ls st).bind fun x st1 => ofOpt (g (rd st1 x)) st1
/-- a value's truth -/
def tru (a : ME) : MT := fun ls st => (a ls st).bind fun x st1 => ofOpt (gTru (rd st1 x)) st1
def notT (a : MT) : MT := fun ls st => (a ls st).bind fun b st1 => .ok (!b) st1
def andT (a b : MT) : MT := fun ls st => (a ls st).bind fun k st1 => if k = true then b ls st1 else .ok false st1
def orT (a b : MT) : MT := fun ls st => (a ls st).bind fun k st1 => if k = true then .ok true st1 else b ls st1
/-- a test as a value -/
def valT (a : MT) : ME := fun ls st => (a ls st).bind fun b st1 => .ok (.bool b) st1
def andE (a b : ME) : ME := fun ls st => (a ls st).bind fun x st1 => (ofOpt (gTru (rd st1 x)) st1).bind fun k st2 => if k = true then b ls st2 else .ok x st2
def orE (a b : ME) : ME := fun ls st => (a ls st).bind fun x st1 => (ofOpt (gTru (rd st1 x)) st1).bind fun k st2 => if k = true then .ok x st2 else b ls st2
def ifE (c : MT) (a b : ME) : ME := fun ls st => (c ls st).bind fun k st1 => if k = true then a ls st1 else b ls st1
def nilA : MA := fun _ st => .ok [] st
def consA (a : ME) (r : MA) : MA := fun ls st => (a ls st).bind fun x st1 => (r ls st1).bind fun xs st2 => .ok (x :: xs) st2
def tupE (a : MA) : ME := fun ls st => (a ls st).bind fun xs st1 => if xs.length ≤ 16777216 then .ok (.tuple xs) st1 else .stuck
def lstE (a : MA) : ME := fun ls st => (a ls st).bind fun xs st1 => if xs.length ≤ 16777216 then .ok (.list xs) st1 else .stuck
/-- a new list that may change -/
def mutE (a : MA) : ME := fun ls st => (a ls st).bind fun xs st1 => if xs.length ≤ 16777216 ∧ xs.all (okD 40) = true then .ok (mref st1.length) (st1 ++ [some (.list xs)]) else .stuck
def gNeg : D → Option D
  | .int i => some (.int (-i))
  | _ => none

section
variable {X : Cx} {a b : Expr} {ma mb : ME} {pos : Pos}
theorem ok_var {i : Nat} {x : Str} (hN : X.N[i]? = some x) (hv : Vis X.env.scope x) (hd : (x == ("__debug__" : Str)) = false) (hcd : (x == ("__classdict__" : Str)) = false) : PE X (.Name x pos) (tE X.K (var i)) :=
  (L2.pe_var hN hv hd hcd).imp fun σ H Q ⟨F, ρ, ls, st, d, st', S, L, hm, q⟩ => by
    unfold var at hm
    split at hm
    · rename_i e hd
      cases hm
      obtain ⟨v, h1, h2⟩ := L.at_ i _ hd
      exact ⟨v, h1, q F ρ H v .refl S h2⟩
    · cases hm
theorem ok_int {i : Int} {j} : PE X (.Constant (.int i) j pos) (tE X.K (cst (.int i))) := L2.pe_int.imp fun σ H Q ⟨F, ρ, ls, st, d, st', S, L, hm, q⟩ => by cases hm; exact q F ρ H _ .refl S (.int i)
theorem ok_bool {i : Bool} {j} : PE X (.Constant (.bool i) j pos) (tE X.K (cst (.bool i))) := L2.pe_bl.imp fun σ H Q ⟨F, ρ, ls, st, d, st', S, L, hm, q⟩ => by cases hm; exact q F ρ H _ .refl S (.bl i)
theorem ok_none {j} : PE X (.Constant .none j pos) (tE X.K (cst .none)) := L2.pe_non.imp fun σ H Q ⟨F, ρ, ls, st, d, st', S, L, hm, q⟩ => by cases hm; exact q F ρ H _ .refl S .non
theorem ok_str {i : Str} {j} : PE X (.Constant (.str i) j pos) (tE X.K (cst (.str i))) := L2.pe_str.imp fun σ H Q ⟨F, ρ, ls, st, d, st', S, L, hm, q⟩ => by cases hm; exact q F ρ H _ .refl S (.str i)
theorem ok_glob {x : Str} {v : V} {u : Value} {d : D} (hg : Gl X x) (hm : X.mg x = some u) (r : RelV v u) (hr : ∀ F ρ, RV X.K F ρ v d) (hd : (x == ("__debug__" : Str)) = false) : PE X (.Name x pos) (tE X.K (cst d)) :=
  (L2.pe_glob hg hm r hd).imp fun σ H Q ⟨F, ρ, ls, st, d', st', S, L, hm, q⟩ => by cases hm; exact q F ρ H _ .refl S (hr F ρ)
/-- two values in a row -/
theorem two {R : V → V → Hp → Prop} {σ : L2.St} {H : Hp} {f : D → D → Store → Res D} {Q : VK}
    (h : tE X.K (fun ls st => (ma ls st).bind fun x st1 => (mb ls st1).bind fun y st2 => f x y st2) σ H Q)
    (hf : ∀ F ρ st d e z st' H2 x y, Sto X.K F ρ st H2 → RV X.K F ρ x d → RV X.K F ρ y e → f d e st = .ok z st' → (∀ F' ρ' H' v, Ext F ρ H2 F' ρ' H' → Sto X.K F' ρ' st' H' → RV X.K F' ρ' v z → Q v H') → R x y H2) :
    tE X.K ma σ H fun x H1 => tE X.K mb σ H1 fun y H2 => R x y H2 := by
  obtain ⟨F, ρ, ls, st, d, st', S, L, hm, q⟩ := h
  obtain ⟨d1, st1, h1, hm⟩ := bind_ok hm
  obtain ⟨d2, st2, h2, hm⟩ := bind_ok hm
  refine ⟨F, ρ, ls, st, d1, st1, S, L, h1, fun F1 ρ1 H1 x e1 S1 r1 => ?_⟩
  refine ⟨F1, ρ1, ls, st1, d2, st2, S1, L.ext e1, h2, fun F2 ρ2 H2 y e2 S2 r2 => ?_⟩
  exact hf F2 ρ2 st2 d1 d2 d st' H2 x y S2 (r1.ext e2) r2 hm fun F' ρ' H' v e S r => q F' ρ' H' v (e1.trans (e2.trans e)) S r
theorem ok_bin {op : Operator} {g : G2} (ho : OpR X (binaryOp op) (opR X.K g)) (ha : PE X a (tE X.K ma)) (hb : PE X b (tE X.K mb)) : PE X (.BinOp a op b pos) (tE X.K (bin g ma mb)) :=
  (L2.pe_op ho ha hb).imp fun σ H Q h => two (f := fun x y st2 => ofOpt (g (rd st2 x) (rd st2 y)) st2) h fun F ρ st d e z st' H2 x y S r1 r2 hm q => by
    obtain ⟨hg, rfl⟩ := ofOpt_ok hm
    exact ⟨F, ρ, st', d, e, z, S, r1, r2, hg, q⟩
theorem ok_neg (ha : PE X a (tE X.K ma)) : PE X (.UnaryOp .USub a pos) (tE X.K (una gNeg ma)) :=
  (L2.pe_un L2.un_neg ha).imp fun σ H Q ⟨F, ρ, ls, st, d, st', S, L, hm, q⟩ => by
    obtain ⟨d1, st1, h1, hm⟩ := bind_ok hm
    obtain ⟨hg, rfl⟩ := ofOpt_ok hm
    refine ⟨F, ρ, ls, st, d1, st', S, L, h1, fun F1 ρ1 H1 x e1 S1 r1 => ?_⟩
    have v := view S1 r1
    generalize rd st' d1 = d' at *
    unfold gNeg at hg
    split at hg
    · cases v; cases hg
      exact ⟨_, rfl, q F1 ρ1 H1 _ e1 S1 (.int _)⟩
    · cases hg
theorem ok_cmp1 {op : CmpOp} {g : G2} (ho : OpR X (compareOp op) (opR X.K g)) (ha : PE X a (tE X.K ma)) (hb : PE X b (tE X.K mb)) (hm : behindInMarks op b = false) : PE X (.Compare a [op] [b] pos) (tE X.K (bin g ma mb)) :=
  (L2.pe_cmpR ho ha hb hm).imp fun σ H Q h => two (f := fun x y st2 => ofOpt (g (rd st2 x) (rd st2 y)) st2) h fun F ρ st d e z st' H2 x y S r1 r2 hm q => by
    obtain ⟨hg, rfl⟩ := ofOpt_ok hm
    exact ⟨F, ρ, st', d, e, z, S, r1, r2, hg, q⟩

/-! ### tests -/
theorem tru_run {pins : List (Addr × Obj)} {s : Shared} {σ : L2.St} {H : Hp} {x : V} {v : Value} {F : Hp} {ρ : List Addr} {st : Store} {d : D} {b : Bool} {Q : Bool → Hp → Prop} (I : L2.Inv X pins σ H s) (rx : RelV x v) (S : Sto X.K F ρ st H) (r : RV X.K F ρ x d) (hg : gTru (rd st d) = some b)
    (q : ∀ F' ρ' H', Ext F ρ H F' ρ' H' → Sto X.K F' ρ' st H' → Q b H') : wpAny (model X.prog X.w) X.A (truthy v) (TP X pins σ Q) X.xe s := ok_tru pins s σ H x v Q I rx ⟨F, ρ, st, d, b, S, r, hg, q⟩
theorem ok_truth (ha : PE X a (tE X.K ma)) (he : ∀ whole, isTrue a X.env whole = (do let v ← whole; standAt a.pos; holding [v] (truthy v))) : PT X a (tT X.K (tru ma)) := by
  refine ⟨fun pins s σ H Q I h => ?_⟩
  obtain ⟨F, ρ, ls, st, b, st', S, L, hm, q⟩ := h
  obtain ⟨d1, st1, h1, hm⟩ := bind_ok hm
  obtain ⟨hg, rfl⟩ := ofOpt_ok hm
  refine isTrue_plain (thn (ha.run pins s σ H (fun x H1 => ∃ F1 ρ1, Ext F ρ H F1 ρ1 H1 ∧ Sto X.K F1 ρ1 st' H1 ∧ RV X.K F1 ρ1 x d1) I ⟨F, ρ, ls, st, d1, st', S, L, h1, fun F1 ρ1 H1 x e1 S1 r1 => ⟨F1, ρ1, e1, S1, r1⟩⟩) fun v s1 ⟨x, H1, I1, r1, q1⟩ => ?_) (he _)
  obtain ⟨F1, ρ1, e1, S1, r2⟩ := q1
  exact tru_run I1 r1 S1 r2 hg fun F' ρ' H' e S => q F' ρ' H' (e1.trans e) S
theorem ok_cmpT {op : CmpOp} {g : G2} (ho : OpR X (compareOp op) (opR X.K g)) (ha : PE X a (tE X.K ma)) (hb : PE X b (tE X.K mb)) (hm : behindInMarks op b = false) : PT X (.Compare a [op] [b] pos) (tT X.K (tru (bin g ma mb))) := by
  refine ⟨fun pins s σ H Q I h => ?_⟩
  obtain ⟨F, ρ, ls, st, c, st', S, L, hm1, q⟩ := h
  obtain ⟨d1, st1, h1, hm1⟩ := bind_ok hm1
  obtain ⟨hg, rfl⟩ := ofOpt_ok hm1
  have z := two (X := X) (ma := ma) (mb := mb) (Q := fun x H1 => ∃ F1 ρ1, Ext F ρ H F1 ρ1 H1 ∧ Sto X.K F1 ρ1 st' H1 ∧ RV X.K F1 ρ1 x d1) (f := fun x y st2 => ofOpt (g (rd st2 x) (rd st2 y)) st2)
    (R := fun x y H2 => opR X.K g x y H2 fun x H1 => ∃ F1 ρ1, Ext F ρ H F1 ρ1 H1 ∧ Sto X.K F1 ρ1 st' H1 ∧ RV X.K F1 ρ1 x d1) (σ := σ) (H := H)
    ⟨F, ρ, ls, st, d1, st', S, L, h1, fun F1 ρ1 H1 x e1 S1 r1 => ⟨F1, ρ1, e1, S1, r1⟩⟩ fun F ρ st d e z st' H2 x y S r1 r2 hm q => by
      obtain ⟨hg, rfl⟩ := ofOpt_ok hm
      exact ⟨F, ρ, st', d, e, z, S, r1, r2, hg, q⟩
  refine wpAny_isTrue_Compare1 (thn (ha.run pins s σ H _ I z) fun v s1 ⟨x, H1, I1, r1, q1⟩ => thn (hb.run pins s1 σ H1 _ I1 q1) fun u s2 ⟨y, H2, I2, r2, q2⟩ =>
    thn (ho pins s2 σ H2 x y v u _ I2 r1 r2 q2) fun c' s3 ⟨w, H3, I3, r3, F1, ρ1, e1, S1, r4⟩ => ?_) hm
  exact tru_run I3 r3 S1 r4 hg fun F' ρ' H' e S => q F' ρ' H' (e1.trans e) S
theorem ok_notT {m : MT} (ha : PT X a (tT X.K m)) : PT X (.UnaryOp .Not a pos) (tT X.K (notT m)) :=
  L2.PT.imp (L2.pt_not ha) fun σ H Q ⟨F, ρ, ls, st, d, st', S, L, hm, q⟩ => by
    obtain ⟨d1, st1, h1, hm⟩ := bind_ok hm
    cases hm
    exact ⟨F, ρ, ls, st, d1, st', S, L, h1, q⟩
theorem PW.imp {e : Expr} {t t' : TT} (h : PW X e t) (i : ∀ σ H Q, t' σ H Q → t σ H Q) : PW X e t' := ⟨fun wh pins s σ H Q I q => h.run wh pins s σ H Q I (i σ H Q q)⟩
theorem ok_andT {m m' : MT} {rest : List Expr} (ha : PT X a (tT X.K m)) (hb : PW X (.BoolOp .And (b :: rest) pos) (tT X.K m')) : PW X (.BoolOp .And (a :: b :: rest) pos) (tT X.K (andT m m')) :=
  PW.imp (L2.pw_and ha hb) fun σ H Q ⟨F, ρ, ls, st, d, st', S, L, hm, q⟩ => by
    obtain ⟨k, st1, h1, hm⟩ := bind_ok hm
    refine ⟨F, ρ, ls, st, k, st1, S, L, h1, fun F1 ρ1 H1 e1 S1 => ?_⟩
    cases k with
    | true => exact ite_tt ⟨F1, ρ1, ls, st1, d, st', S1, L.ext e1, hm, fun F' ρ' H' e S => q F' ρ' H' (e1.trans e) S⟩
    | false => cases hm; exact ite_ff (q F1 ρ1 H1 e1 S1)
theorem ok_orT {m m' : MT} {rest : List Expr} (ha : PT X a (tT X.K m)) (hb : PW X (.BoolOp .Or (b :: rest) pos) (tT X.K m')) : PW X (.BoolOp .Or (a :: b :: rest) pos) (tT X.K (orT m m')) :=
  PW.imp (L2.pw_or ha hb) fun σ H Q ⟨F, ρ, ls, st, d, st', S, L, hm, q⟩ => by
    obtain ⟨k, st1, h1, hm⟩ := bind_ok hm
    refine ⟨F, ρ, ls, st, k, st1, S, L, h1, fun F1 ρ1 H1 e1 S1 => ?_⟩
    cases k with
    | false => exact ite_ff ⟨F1, ρ1, ls, st1, d, st', S1, L.ext e1, hm, fun F' ρ' H' e S => q F' ρ' H' (e1.trans e) S⟩
    | true => cases hm; exact ite_tt (q F1 ρ1 H1 e1 S1)
theorem ok_not {m : MT} (ha : PT X a (tT X.K m)) (hx : ∃ m' : ME, PE X a (tE X.K m') ∧ m = tru m') : PE X (.UnaryOp .Not a pos) (tE X.K (valT (notT m))) := by
  obtain ⟨m', he, rfl⟩ := hx
  refine ⟨fun pins s σ H Q I h => ?_⟩
  obtain ⟨F, ρ, ls, st, d, st', S, L, hm, q⟩ := h
  obtain ⟨b, st1, h1, hm⟩ := bind_ok hm
  obtain ⟨b', st2, h2, h3⟩ := bind_ok h1
  obtain ⟨d1, st3, h4, h5⟩ := bind_ok h2
  obtain ⟨hg, rfl⟩ := ofOpt_ok h5
  cases hm; cases h3
  refine UnaryOp_ (thn (he.run pins s σ H (fun x H1 => ∃ F1 ρ1, Ext F ρ H F1 ρ1 H1 ∧ Sto X.K F1 ρ1 st' H1 ∧ RV X.K F1 ρ1 x d1) I ⟨F, ρ, ls, st, d1, st', S, L, h4, fun F1 ρ1 H1 x e1 S1 r1 => ⟨F1, ρ1, e1, S1, r1⟩⟩) fun v s1 ⟨x, H1, I1, r1, F1, ρ1, e1, S1, r2⟩ => ?_)
  exact not_of (thn (tru_run (Q := fun k H2 => Q (.bl !k) H2) I1 r1 S1 r2 hg fun F' ρ' H' e S => q F' ρ' H' _ (e1.trans e) S (.bl _)) fun c s2 ⟨H2, I2, q2⟩ => ⟨.bl !c, H2, I2, rfl, q2⟩)
theorem ok_andE {rest : List Expr} (ha : PE X a (tE X.K ma)) (hb : PE X (.BoolOp .And (b :: rest) pos) (tE X.K mb)) : PE X (.BoolOp .And (a :: b :: rest) pos) (tE X.K (andE ma mb)) := by
  refine ⟨fun pins s σ H Q I h => ?_⟩
  obtain ⟨F, ρ, ls, st, d, st', S, L, hm, q⟩ := h
  obtain ⟨d1, st1, h1, hm⟩ := bind_ok hm
  obtain ⟨k, st2, h2, hm⟩ := bind_ok hm
  obtain ⟨hg, rfl⟩ := ofOpt_ok h2
  refine BoolOp_and (thn (ha.run pins s σ H (fun x H1 => ∃ F1 ρ1, Ext F ρ H F1 ρ1 H1 ∧ Sto X.K F1 ρ1 st2 H1 ∧ RV X.K F1 ρ1 x d1) I ⟨F, ρ, ls, st, d1, st2, S, L, h1, fun F1 ρ1 H1 x e1 S1 r1 => ⟨F1, ρ1, e1, S1, r1⟩⟩) fun v s1 ⟨x, H1, I1, r1, F1, ρ1, e1, S1, r2⟩ => ?_)
  refine thn (tru_run (Q := fun c H2 => c = k ∧ ∃ F2 ρ2, Ext F1 ρ1 H1 F2 ρ2 H2 ∧ Sto X.K F2 ρ2 st2 H2) I1 r1 S1 r2 hg fun F' ρ' H' e S => ⟨rfl, F', ρ', e, S⟩) fun c s2 ⟨H2, I2, ec, F2, ρ2, e2, S2⟩ => ?_
  subst ec
  cases c with
  | true => exact ite_tt (hb.run pins s2 σ H2 Q I2 ⟨F2, ρ2, ls, st2, d, st', S2, (L.ext e1).ext e2, hm, fun F' ρ' H' v e S r => q F' ρ' H' v (e1.trans (e2.trans e)) S r⟩)
  | false => cases hm; exact ite_ff ⟨x, H2, I2, r1, q F2 ρ2 H2 x (e1.trans e2) S2 (r2.ext e2)⟩
theorem ok_orE {rest : List Expr} (ha : PE X a (tE X.K ma)) (hb : PE X (.BoolOp .Or (b :: rest) pos) (tE X.K mb)) : PE X (.BoolOp .Or (a :: b :: rest) pos) (tE X.K (orE ma mb)) := by
  refine ⟨fun pins s σ H Q I h => ?_⟩
  obtain ⟨F, ρ, ls, st, d, st', S, L, hm, q⟩ := h
  obtain ⟨d1, st1, h1, hm⟩ := bind_ok hm
  obtain ⟨k, st2, h2, hm⟩ := bind_ok hm
  obtain ⟨hg, rfl⟩ := ofOpt_ok h2
  refine BoolOp_or (thn (ha.run pins s σ H (fun x H1 => ∃ F1 ρ1, Ext F ρ H F1 ρ1 H1 ∧ Sto X.K F1 ρ1 st2 H1 ∧ RV X.K F1 ρ1 x d1) I ⟨F, ρ, ls, st, d1, st2, S, L, h1, fun F1 ρ1 H1 x e1 S1 r1 => ⟨F1, ρ1, e1, S1, r1⟩⟩) fun v s1 ⟨x, H1, I1, r1, F1, ρ1, e1, S1, r2⟩ => ?_)
  refine thn (tru_run (Q := fun c H2 => c = k ∧ ∃ F2 ρ2, Ext F1 ρ1 H1 F2 ρ2 H2 ∧ Sto X.K F2 ρ2 st2 H2) I1 r1 S1 r2 hg fun F' ρ' H' e S => ⟨rfl, F', ρ', e, S⟩) fun c s2 ⟨H2, I2, ec, F2, ρ2, e2, S2⟩ => ?_
  subst ec
  cases c with
  | false => exact ite_ff (hb.run pins s2 σ H2 Q I2 ⟨F2, ρ2, ls, st2, d, st', S2, (L.ext e1).ext e2, hm, fun F' ρ' H' v e S r => q F' ρ' H' v (e1.trans (e2.trans e)) S r⟩)
  | true => cases hm; exact ite_tt ⟨x, H2, I2, r1, q F2 ρ2 H2 x (e1.trans e2) S2 (r2.ext e2)⟩
theorem ok_ifE {c : Expr} {m : MT} (hc : PT X c (tT X.K m)) (ha : PE X a (tE X.K ma)) (hb : PE X b (tE X.K mb)) : PE X (.IfExp c a b pos) (tE X.K (ifE m ma mb)) :=
  (L2.pe_ifExp hc ha hb).imp fun σ H Q ⟨F, ρ, ls, st, d, st', S, L, hm, q⟩ => by
    obtain ⟨k, st1, h1, hm⟩ := bind_ok hm
    refine ⟨F, ρ, ls, st, k, st1, S, L, h1, fun F1 ρ1 H1 e1 S1 => ?_⟩
    cases k with
    | true => exact ite_tt ⟨F1, ρ1, ls, st1, d, st', S1, L.ext e1, hm, fun F' ρ' H' v e S r => q F' ρ' H' v (e1.trans e) S r⟩
    | false => exact ite_ff ⟨F1, ρ1, ls, st1, d, st', S1, L.ext e1, hm, fun F' ρ' H' v e S r => q F' ρ' H' v (e1.trans e) S r⟩

/-! ### argument lists, displays -/
theorem ok_nilA : PA X [] (tA X.K nilA) := L2.pa_nil.imp fun σ H Q ⟨F, ρ, ls, st, d, st', S, L, hm, q⟩ => by cases hm; exact q F ρ H [] .refl S .nil
theorem ok_consA {es : List Expr} {m : MA} (ha : PE X a (tE X.K ma)) (hr : PA X es (tA X.K m)) (hs : starEach (a :: es) X.env = (false, eval a X.env) :: starEach es X.env) : PA X (a :: es) (tA X.K (consA ma m)) :=
  (L2.pa_cons ha hr hs).imp fun σ H Q ⟨F, ρ, ls, st, d, st', S, L, hm, q⟩ => by
    obtain ⟨d1, st1, h1, hm⟩ := bind_ok hm
    obtain ⟨ds, st2, h2, hm⟩ := bind_ok hm
    cases hm
    refine ⟨F, ρ, ls, st, d1, st1, S, L, h1, fun F1 ρ1 H1 x e1 S1 r1 => ?_⟩
    exact ⟨F1, ρ1, ls, st1, ds, st', S1, L.ext e1, h2, fun F2 ρ2 H2 xs e2 S2 r2 => q F2 ρ2 H2 (x :: xs) (e1.trans e2) S2 (.cons (r1.ext e2) r2)⟩
theorem ok_tupE {es : List Expr} {m : MA} {k} (h : PA X es (tA X.K m)) : PE X (.Tuple es k pos) (tE X.K (tupE m)) :=
  (L2.pe_tup h).imp fun σ H Q ⟨F, ρ, ls, st, d, st', S, L, hm, q⟩ => by
    obtain ⟨ds, st1, h1, hm⟩ := bind_ok hm
    split at hm
    · cases hm
      refine ⟨F, ρ, ls, st, ds, st', S, L, h1, fun F1 ρ1 H1 xs e1 S1 r1 => ⟨by rw [line_eq, r1.length]; assumption, fun p hp => ?_⟩⟩
      exact back_tup S1 hp r1 fun F' ρ' H' v e => q F' ρ' H' v (e1.trans e)
    · cases hm
theorem ok_lstE {es : List Expr} {m : MA} (h : PA X es (tA X.K m)) : PE X (.List es pos) (tE X.K (lstE m)) :=
  (L2.pe_lst h).imp fun σ H Q ⟨F, ρ, ls, st, d, st', S, L, hm, q⟩ => by
    obtain ⟨ds, st1, h1, hm⟩ := bind_ok hm
    split at hm
    · cases hm
      refine ⟨F, ρ, ls, st, ds, st', S, L, h1, fun F1 ρ1 H1 xs e1 S1 r1 => ⟨by rw [line_eq, r1.length]; assumption, fun p hp => ?_⟩⟩
      exact back_lst S1 hp r1 fun F' ρ' H' v e => q F' ρ' H' v (e1.trans e)
    · cases hm
theorem ok_mutE {es : List Expr} {m : MA} (h : PA X es (tA X.K m)) : PE X (.List es pos) (tE X.K (mutE m)) :=
  (L2.pe_lst h).imp fun σ H Q ⟨F, ρ, ls, st, d, st', S, L, hm, q⟩ => by
    obtain ⟨ds, st1, h1, hm⟩ := bind_ok hm
    split at hm
    · rename_i hc
      cases hm
      refine ⟨F, ρ, ls, st, ds, st1, S, L, h1, fun F1 ρ1 H1 xs e1 S1 r1 => ⟨by rw [line_eq, r1.length]; exact hc.1, fun p hp => ?_⟩⟩
      exact q _ _ _ _ (e1.trans (ext_mut S1 hp _)) (sto_mut S1 hp r1 hc.2) (new_mut S1)
    · cases hm
end
end MP

set_option Elab.async false
set_option linter.all false
set_option maxRecDepth 100000
set_option maxHeartbeats 4000000
/-! MpSeq: subscripts, slices, chains of comparisons. Own work. -/
namespace MP
open PySem PySem.Spec PyProof.Rows L2
def gIdx : G2
  | .list ds, .int i => atI ds i
  | .tuple ds, .int i => atI ds i
  | .str z, .int i => if z.length ≤ 16777216 then (atI z.cps.toList i).map fun c => .str ⟨#[c]⟩ else none
  | _, _ => none
def cutD {α : Type} (xs : List α) (lo hi : Option Int) : List α := (xs.drop (HT.sIx xs.length 0 lo)).take (HT.sIx xs.length xs.length hi - HT.sIx xs.length 0 lo)
def gSlc (d : D) (lo hi : Option Int) : Option D :=
  match d with
  | .list ds => some (.list (cutD ds lo hi))
  | .tuple ds => some (.tuple (cutD ds lo hi))
  | .str z => if z.length ≤ 16777216 then some (.str ⟨(cutD z.cps.toList lo hi).toArray⟩) else none
  | _ => none
/-- a slice's part -/
abbrev MO := Ls → Store → Res (Option Int)
def noP : MO := fun _ st => .ok none st
def someP (a : ME) : MO := fun ls st => (a ls st).bind fun x st1 => match x with
  | .int i => .ok (some i) st1
  | _ => .stuck
def slc (a : ME) (lo hi : MO) : ME := fun ls st => (a ls st).bind fun x st1 => (lo ls st1).bind fun l st2 => (hi ls st2).bind fun h st3 => ofOpt (gSlc (rd st3 x) l h) st3
/-- e[::-1] -/
def gRev : D → Option D
  | .list ds => some (.list ds.reverse)
  | _ => none

def chainT : List (CmpOp × ME) → D → Ls → Store → Res Bool
  | [], _, _, st => .ok true st
  | (op, b) :: r, x, ls, st => (b ls st).bind fun y st1 => (ofOpt (gCmp op (rd st1 x) (rd st1 y)) st1).bind fun z st2 => (ofOpt (gTru (rd st2 z)) st2).bind fun k st3 =>
    if k = true then chainT r y ls st3 else .ok false st3
def chn (a : ME) (r : List (CmpOp × ME)) : MT := fun ls st => (a ls st).bind fun x st1 => chainT r x ls st1

def tO (K : Frag) (m : MO) : TO := fun σ H Q => ∃ F ρ ls st d st', Sto K F ρ st H ∧ Loc K F ρ ls σ ∧ m ls st = .ok d st' ∧
  ∀ F' ρ' H', Ext F ρ H F' ρ' H' → Sto K F' ρ' st' H' → Q d H'
section
variable {X : Cx} {a b : Expr} {ma mb : ME} {pos : Pos}
theorem RVs.atI {K : Frag} {F : Hp} {ρ : List Addr} {xs : List V} {ds : List D} {i : Int} {d : D} (r : RVs K F ρ xs ds) (h : atI ds i = some d) : ∃ v, L2.atI xs i = some v ∧ RV K F ρ v d := by
  unfold L2.atI at h ⊢
  rw [r.length]
  cases e : ixN ds.length i with
  | none => rw [e] at h; cases h
  | some j =>
    rw [e] at h
    exact r.get h
theorem plainIx_of {b : Expr} (h : (match b with | .Slice _ _ _ _ => false | _ => true) = true) : PlainIx b := by
  intro o i
  cases b <;> first | rfl | cases h
theorem ok_idx (ha : PE X a (tE X.K ma)) (hb : PE X b (tE X.K mb)) (hs : PlainIx b) : PE X (.Subscript a b pos) (tE X.K (bin gIdx ma mb)) :=
  (L2.pe_ix ix_seq ha hb hs).imp fun σ H Q h => two (f := fun x y st2 => ofOpt (gIdx (rd st2 x) (rd st2 y)) st2) h fun F ρ st d e z st' H2 x y S r1 r2 hm q => by
    obtain ⟨hg, rfl⟩ := ofOpt_ok hm
    have v1 := view S r1
    have v2 := view S r2
    generalize rd st' d = d' at *
    generalize rd st' e = e' at *
    unfold gIdx at hg
    split at hg
    · cases v2
      obtain ⟨p, xs, rfl, h1, h2⟩ := v1
      obtain ⟨v, h3, h4⟩ := h2.atI hg
      exact .inl ⟨p, xs, _, v, rfl, rfl, h1, h3, back S q h4⟩
    · cases v2
      obtain ⟨p, xs, rfl, h1, h2⟩ := v1
      obtain ⟨v, h3, h4⟩ := h2.atI hg
      exact .inr (.inl ⟨p, xs, _, v, rfl, rfl, sqT_mono S.sub h1, h3, back S q h4⟩)
    · cases v1; cases v2
      split at hg
      · obtain ⟨c, h3, rfl⟩ := Option.map_eq_some_iff.mp hg
        exact .inr (.inr ⟨_, _, c, rfl, rfl, by rw [line_eq]; assumption, h3, back S q (.str _)⟩)
      · cases hg
    · cases hg
theorem ok_noP : PO X none (tO X.K noP) := ⟨fun pins s σ H Q I ⟨F, ρ, ls, st, d, st', S, L, hm, q⟩ => L2.po_none.run pins s σ H Q I (by cases hm; exact q F ρ H .refl S)⟩
theorem ok_someP (ha : PE X a (tE X.K ma)) : PO X (some a) (tO X.K (someP ma)) := ⟨fun pins s σ H Q I ⟨F, ρ, ls, st, d, st', S, L, hm, q⟩ => (L2.po_some ha).run pins s σ H Q I (by
  obtain ⟨x, st1, h1, hm⟩ := bind_ok hm
  refine ⟨F, ρ, ls, st, x, st1, S, L, h1, fun F1 ρ1 H1 v e1 S1 r1 => ?_⟩
  cases x with
  | int i => cases hm; cases r1; exact ⟨i, rfl, q F1 ρ1 H1 e1 S1⟩
  | _ => cases hm)⟩
theorem RVs.cut {K : Frag} {F : Hp} {ρ : List Addr} {xs : List V} {ds : List D} (r : RVs K F ρ xs ds) (lo hi : Option Int) : RVs K F ρ (cutV xs lo hi) (cutD ds lo hi) := by
  unfold cutV cutD
  rw [r.length]
  exact (r.drop _).take _
theorem cutD_whole {α : Type} {xs : List α} {lo hi : Option Int} (h1 : HT.sIx xs.length 0 lo = 0) (h2 : HT.sIx xs.length xs.length hi = xs.length) : cutD xs lo hi = xs := by
  unfold cutD
  rw [h1, h2]
  simp
theorem sl_any : SlR X (fun x lo hi H Q => ∃ F ρ st d z, Sto X.K F ρ st H ∧ RV X.K F ρ x d ∧ gSlc (rd st d) lo hi = some z ∧ ∀ F' ρ' H' v, Ext F ρ H F' ρ' H' → Sto X.K F' ρ' st H' → RV X.K F' ρ' v z → Q v H') := by
  intro pins s σ H x v vl vu lo hi sl Q I rx hs pl pu h
  obtain ⟨F, ρ, st, d, z, S, r, hg, q⟩ := h
  have v1 := view S r
  generalize rd st d = d' at *
  unfold gSlc at hg
  split at hg
  · obtain ⟨p, xs, rfl, h1, h2⟩ := v1
    cases hg
    exact sl_list pins s σ H _ v vl vu lo hi sl Q I rx hs pl pu ⟨p, xs, rfl, h1, fun l hl => back_lst S hl (h2.cut lo hi) q⟩
  · have vt := v1.rvT
    obtain ⟨p, xs, rfl, h1, h2⟩ := v1
    cases hg
    refine sl_tupA pins s σ H _ v vl vu lo hi sl Q I rx hs pl pu ⟨p, xs, rfl, sqT_mono S.sub h1, fun hw => ?_, fun _ l hl => back_tup S hl (h2.cut lo hi) q⟩
    rw [h2.length] at hw
    rw [cutD_whole hw.1 hw.2] at q
    exact back S q vt
  · cases v1
    split at hg
    · rename_i z hz
      cases hg
      refine sl_str pins s σ H _ v vl vu lo hi sl Q I rx hs pl pu ⟨z, rfl, by rw [line_eq]; assumption, ?_⟩
      have : cutS z lo hi = ⟨(cutD z.cps.toList lo hi).toArray⟩ := by
        unfold cutS cutD
        rw [show z.length = z.cps.toList.length from by simp [Str.length]]
      rw [this]
      exact back S q (.str _)
    · cases hg
  · cases hg
theorem ok_slc {lo hi : Option Expr} {ml mh : MO} {p2 : Pos} (ha : PE X a (tE X.K ma)) (hl : PO X lo (tO X.K ml)) (hh : PO X hi (tO X.K mh)) : PE X (.Subscript a (.Slice lo hi none p2) pos) (tE X.K (slc ma ml mh)) :=
  (L2.pe_slice sl_any ha hl hh).imp fun σ H Q ⟨F, ρ, ls, st, d, st', S, L, hm, q⟩ => by
    obtain ⟨x, st1, h1, hm⟩ := bind_ok hm
    obtain ⟨l, st2, h2, hm⟩ := bind_ok hm
    obtain ⟨h, st3, h3, hm⟩ := bind_ok hm
    obtain ⟨hg, rfl⟩ := ofOpt_ok hm
    refine ⟨F, ρ, ls, st, x, st1, S, L, h1, fun F1 ρ1 H1 v e1 S1 r1 => ?_⟩
    refine ⟨F1, ρ1, ls, st1, l, st2, S1, L.ext e1, h2, fun F2 ρ2 H2 e2 S2 => ?_⟩
    refine ⟨F2, ρ2, ls, st2, h, st', S2, (L.ext e1).ext e2, h3, fun F3 ρ3 H3 e3 S3 => ?_⟩
    exact ⟨F3, ρ3, st', x, d, S3, (r1.ext e2).ext e3, hg, fun F' ρ' H' v e S r => q F' ρ' H' v (e1.trans (e2.trans (e3.trans e))) S r⟩
theorem ok_revL {k : Nat} {p1 p2 p3 : Pos} (ha : PE X a (tE X.K ma)) : PE X (.Subscript a (.Slice none none (some (.UnaryOp .USub (.Constant (.int 1) k p1) p2)) p3) pos) (tE X.K (una gRev ma)) :=
  (L2.pe_revL ha).imp fun σ H Q ⟨F, ρ, ls, st, d, st', S, L, hm, q⟩ => by
    obtain ⟨x, st1, h1, hm⟩ := bind_ok hm
    obtain ⟨hg, rfl⟩ := ofOpt_ok hm
    refine ⟨F, ρ, ls, st, x, st', S, L, h1, fun F1 ρ1 H1 v e1 S1 r1 => ?_⟩
    have v1 := view S1 r1
    generalize rd st' x = x' at *
    unfold gRev at hg
    split at hg
    · obtain ⟨p, xs, rfl, h1, h2⟩ := v1
      cases hg
      exact ⟨p, xs, rfl, h1, fun l hl => back_lst S1 hl h2.reverse fun F' ρ' H' v e => q F' ρ' H' v (e1.trans e)⟩
    · cases hg

/-! ### chains -/
/-- a chain's rest: the terms behind the operators -/
inductive ChnOk (X : Cx) : List CmpOp → List Expr → List (CmpOp × ME) → Prop
  | one {op : CmpOp} {e : Expr} {m : ME} : PE X e (tE X.K m) → ChnOk X [op] [e] [(op, m)]
  | cons {op : CmpOp} {e : Expr} {m : ME} {ops : List CmpOp} {es : List Expr} {ms : List (CmpOp × ME)} : PE X e (tE X.K m) → ChnOk X ops es ms → ChnOk X (op :: ops) (e :: es) ((op, m) :: ms)
theorem ChnOk.ne {ops : List CmpOp} {es : List Expr} {ms : List (CmpOp × ME)} (h : ChnOk X ops es ms) : ∃ op ops' e es', ops = op :: ops' ∧ es = e :: es' := by
  cases h <;> exact ⟨_, _, _, _, rfl, rfl⟩
theorem chain_run (hu : X.A.units + 100 < cLine) {ops : List CmpOp} {es : List Expr} {ms : List (CmpOp × ME)} (h : ChnOk X ops es ms) : ∀ {pins : List (Addr × Obj)} {s : Shared} {σ : L2.St} {H : Hp} {x : V} {v : Value} {F : Hp} {ρ : List Addr} {ls : Ls} {st st' : Store} {d : D} {b : Bool} {Q : Bool → Hp → Prop}
    (I : L2.Inv X pins σ H s) (rx : RelV x v) (S : Sto X.K F ρ st H) (L : Loc X.K F ρ ls σ) (r : RV X.K F ρ x d) (hm : chainT ms d ls st = .ok b st')
    (q : ∀ F' ρ' H', Ext F ρ H F' ρ' H' → Sto X.K F' ρ' st' H' → Q b H'), wpAny (model X.prog X.w) X.A (testChain pos v ops (evalEach es X.env)) (TP X pins σ Q) X.xe s := by
  induction h with
  | @one op e m he =>
    intro pins s σ H x v F ρ ls st st' d b Q I rx S L r hm q
    obtain ⟨y, st1, h1, hm⟩ := bind_ok hm
    obtain ⟨z, st2, h2, hm⟩ := bind_ok hm
    obtain ⟨k, st3, h3, hm⟩ := bind_ok hm
    obtain ⟨hg, rfl⟩ := ofOpt_ok h2
    obtain ⟨ht, rfl⟩ := ofOpt_ok h3
    have hb : k = b ∧ st' = st3 := by
      cases k with
      | true => cases hm; exact ⟨rfl, rfl⟩
      | false => cases hm; exact ⟨rfl, rfl⟩
    obtain ⟨rfl, rfl⟩ := hb
    show wpAny _ _ (testChain pos v [op] [eval e X.env]) _ _ _
    refine test_last (thn (he.run pins s σ H (fun w H1 => ∃ F1 ρ1, Ext F ρ H F1 ρ1 H1 ∧ Sto X.K F1 ρ1 st' H1 ∧ RV X.K F1 ρ1 w y) I ⟨F, ρ, ls, st, y, st', S, L, h1, fun F1 ρ1 H1 x e1 S1 r1 => ⟨F1, ρ1, e1, S1, r1⟩⟩) fun u s1 ⟨w, H1, I1, r1, F1, ρ1, e1, S1, r2⟩ => ?_)
    refine thn (ok_cmp hu op pins s1 σ H1 x w v u (fun w2 H2 => ∃ F2 ρ2, Ext F1 ρ1 H1 F2 ρ2 H2 ∧ Sto X.K F2 ρ2 st' H2 ∧ RV X.K F2 ρ2 w2 z) I1 rx r1 ⟨F1, ρ1, st', d, y, z, S1, r.ext e1, r2, hg, fun F' ρ' H' v e S r => ⟨F', ρ', e, S, r⟩⟩) fun c s2 ⟨w2, H2, I2, r3, F2, ρ2, e2, S2, r4⟩ => ?_
    exact tru_run I2 r3 S2 r4 ht fun F' ρ' H' e S => q F' ρ' H' (e1.trans (e2.trans e)) S
  | @cons op e m ops es ms he hr ih =>
    intro pins s σ H x v F ρ ls st st' d b Q I rx S L r hm q
    obtain ⟨y, st1, h1, hm⟩ := bind_ok hm
    obtain ⟨z, st2, h2, hm⟩ := bind_ok hm
    obtain ⟨k, st3, h3, hm⟩ := bind_ok hm
    obtain ⟨hg, rfl⟩ := ofOpt_ok h2
    obtain ⟨ht, rfl⟩ := ofOpt_ok h3
    obtain ⟨op', ops', e', es', rfl, rfl⟩ := hr.ne
    show wpAny _ _ (testChain pos v (op :: op' :: ops') (eval e X.env :: eval e' X.env :: evalEach es' X.env)) _ _ _
    refine test_link (thn (he.run pins s σ H (fun w H1 => ∃ F1 ρ1, Ext F ρ H F1 ρ1 H1 ∧ Sto X.K F1 ρ1 st3 H1 ∧ RV X.K F1 ρ1 w y) I ⟨F, ρ, ls, st, y, st3, S, L, h1, fun F1 ρ1 H1 x e1 S1 r1 => ⟨F1, ρ1, e1, S1, r1⟩⟩) fun u s1 ⟨w, H1, I1, r1, F1, ρ1, e1, S1, r2⟩ => ?_)
    refine thn (ok_cmp hu op pins s1 σ H1 x w v u (fun w2 H2 => ∃ F2 ρ2, Ext F1 ρ1 H1 F2 ρ2 H2 ∧ Sto X.K F2 ρ2 st3 H2 ∧ RV X.K F2 ρ2 w2 z) I1 rx r1 ⟨F1, ρ1, st3, d, y, z, S1, r.ext e1, r2, hg, fun F' ρ' H' v e S r => ⟨F', ρ', e, S, r⟩⟩) fun c s2 ⟨w2, H2, I2, r3, F2, ρ2, e2, S2, r4⟩ => ?_
    refine thn (tru_run (Q := fun c H3 => c = k ∧ ∃ F3 ρ3, Ext F2 ρ2 H2 F3 ρ3 H3 ∧ Sto X.K F3 ρ3 st3 H3) I2 r3 S2 r4 ht fun F' ρ' H' e S => ⟨rfl, F', ρ', e, S⟩) fun c s3 ⟨H3, I3, ec, F3, ρ3, e3, S3⟩ => ?_
    subst ec
    cases c with
    | false => cases hm; exact ite_ff ⟨H3, I3, q F3 ρ3 H3 (e1.trans (e2.trans e3)) S3⟩
    | true => exact ite_tt (ih I3 r1 S3 (((L.ext e1).ext e2).ext e3) ((r2.ext e2).ext e3) hm fun F' ρ' H' e S => q F' ρ' H' (e1.trans (e2.trans (e3.trans e))) S)
theorem ok_chnT (hu : X.A.units + 100 < cLine) {op op' : CmpOp} {ops : List CmpOp} {e e' : Expr} {es : List Expr} {ms : List (CmpOp × ME)} (ha : PE X a (tE X.K ma)) (h : ChnOk X (op :: op' :: ops) (e :: e' :: es) ms) (hm : lastMarks (op :: op' :: ops) (e :: e' :: es) = false) :
    PT X (.Compare a (op :: op' :: ops) (e :: e' :: es) pos) (tT X.K (chn ma ms)) := by
  refine ⟨fun pins s σ H Q I hh => ?_⟩
  obtain ⟨F, ρ, ls, st, b, st', S, L, hm1, q⟩ := hh
  obtain ⟨x, st1, h1, hm1⟩ := bind_ok hm1
  refine isTrue_chain (thn (ha.run pins s σ H (fun w H1 => ∃ F1 ρ1, Ext F ρ H F1 ρ1 H1 ∧ Sto X.K F1 ρ1 st1 H1 ∧ RV X.K F1 ρ1 w x) I ⟨F, ρ, ls, st, x, st1, S, L, h1, fun F1 ρ1 H1 x e1 S1 r1 => ⟨F1, ρ1, e1, S1, r1⟩⟩) fun v s1 ⟨w, H1, I1, r1, F1, ρ1, e1, S1, r2⟩ => ?_) hm
  exact chain_run hu h I1 r1 S1 (L.ext e1) r2 hm1 fun F' ρ' H' e S => q F' ρ' H' (e1.trans e) S
end
end MP

set_option Elab.async false
set_option linter.all false
set_option maxRecDepth 100000
set_option maxHeartbeats 4000000
/-! MpBlt: built-in functions of values, methods. Own work. -/
namespace MP
open PySem PySem.Spec PyProof.Rows L2
abbrev GL := List D → Option D
def callGR (K : Frag) (g : GL) : List V → Hp → VK → Prop := fun vs H Q => ∃ F ρ st ds z, Sto K F ρ st H ∧ RVs K F ρ vs ds ∧ g (ds.map (rd st)) = some z ∧ ∀ F' ρ' H' v, Ext F ρ H F' ρ' H' → Sto K F' ρ' st H' → RV K F' ρ' v z → Q v H'
def blt (g : GL) (a : MA) : ME := fun ls st => (a ls st).bind fun xs st1 => ofOpt (g (xs.map (rd st1))) st1
def asInt : D → Option Int
  | .int i => some i
  | _ => none
def asInts : List D → Option (List Int)
  | [] => some []
  | .int i :: r => (asInts r).map (i :: ·)
  | _ :: _ => none
def asBools : List D → Option (List Bool)
  | [] => some []
  | .bool i :: r => (asBools r).map (i :: ·)
  | _ :: _ => none
def asStrs : List D → Option (List Str)
  | [] => some []
  | .str i :: r => (asStrs r).map (i :: ·)
  | _ :: _ => none
theorem asInts_map (l : List Int) : asInts (l.map .int) = some l := by
  induction l with
  | nil => rfl
  | cons a r ih => simp [asInts, ih]
theorem asBools_map (l : List Bool) : asBools (l.map .bool) = some l := by
  induction l with
  | nil => rfl
  | cons a r ih => simp [asBools, ih]
theorem asStrs_map (l : List Str) : asStrs (l.map .str) = some l := by
  induction l with
  | nil => rfl
  | cons a r ih => simp [asStrs, ih]
theorem asInts_eq : ∀ {ds : List D} {l : List Int}, asInts ds = some l → ds = l.map .int
  | [], l, h => by cases h; rfl
  | .int i :: r, l, h => by
    obtain ⟨m, hm, rfl⟩ := Option.map_eq_some_iff.mp (show (asInts r).map (i :: ·) = some l from h)
    rw [asInts_eq hm]; rfl
  | .none :: _, _, h | .bool _ :: _, _, h | .str _ :: _, _, h | .list _ :: _, _, h | .tuple _ :: _, _, h | .dict _ :: _, _, h => by cases h
theorem asBools_eq : ∀ {ds : List D} {l : List Bool}, asBools ds = some l → ds = l.map .bool
  | [], l, h => by cases h; rfl
  | .bool i :: r, l, h => by
    obtain ⟨m, hm, rfl⟩ := Option.map_eq_some_iff.mp (show (asBools r).map (i :: ·) = some l from h)
    rw [asBools_eq hm]; rfl
  | .none :: _, _, h | .int _ :: _, _, h | .str _ :: _, _, h | .list _ :: _, _, h | .tuple _ :: _, _, h | .dict _ :: _, _, h => by cases h
theorem asStrs_eq : ∀ {ds : List D} {l : List Str}, asStrs ds = some l → ds = l.map .str
  | [], l, h => by cases h; rfl
  | .str i :: r, l, h => by
    obtain ⟨m, hm, rfl⟩ := Option.map_eq_some_iff.mp (show (asStrs r).map (i :: ·) = some l from h)
    rw [asStrs_eq hm]; rfl
  | .none :: _, _, h | .int _ :: _, _, h | .bool _ :: _, _, h | .list _ :: _, _, h | .tuple _ :: _, _, h | .dict _ :: _, _, h => by cases h
section
variable {K : Frag} {F : Hp} {ρ : List Addr}
theorem RVs.ints : ∀ {vs : List V} {l : List Int}, RVs K F ρ vs (l.map .int) → vs = l.map V.int
  | _, [], r => by cases r; rfl
  | _, i :: l, r => by
    cases r with
    | cons a b => cases a; rw [RVs.ints b]; rfl
theorem RVs.bools : ∀ {vs : List V} {l : List Bool}, RVs K F ρ vs (l.map .bool) → vs = l.map V.bl
  | _, [], r => by cases r; rfl
  | _, i :: l, r => by
    cases r with
    | cons a b => cases a; rw [RVs.bools b]; rfl
theorem RVs.strs : ∀ {vs : List V} {l : List Str}, RVs K F ρ vs (l.map .str) → vs = l.map V.str
  | _, [], r => by cases r; rfl
  | _, i :: l, r => by
    cases r with
    | cons a b => cases a; rw [RVs.strs b]; rfl
end

def bLen : GL
  | [.list ds] => some (.int ds.length)
  | [.tuple ds] => some (.int ds.length)
  | [.str x] => if x.length ≤ 16777216 then some (.int x.length) else none
  | _ => none
def bAbs : GL
  | [.int i] => some (.int (if i < 0 then -i else i))
  | _ => none
def bInt : GL
  | [.int i] => some (.int i)
  | [.bool b] => some (.int (if b then 1 else 0))
  | _ => none
def bMin : GL
  | [.int i, .int j] => some (.int (if j < i then j else i))
  | [.list ds] => (asInts ds).bind fun l => l.min?.map .int
  | _ => none
def bMax : GL
  | [.int i, .int j] => some (.int (if j > i then j else i))
  | [.list ds] => (asInts ds).bind fun l => l.max?.map .int
  | _ => none
def bSum : GL
  | [.list ds] => (asInts ds).map fun l => .int l.sum
  | [.tuple ds] => (asInts ds).map fun l => .int l.sum
  | _ => none
def bAll : GL
  | [.list ds] => (asBools ds).map fun l => .bool (l.all id)
  | _ => none
def bAny : GL
  | [.list ds] => (asBools ds).map fun l => .bool (l.any id)
  | _ => none
def bTuple : GL
  | [.list ds] => some (.tuple ds)
  | [.tuple ds] => some (.tuple ds)
  | _ => none
def bList : GL
  | [.list ds] => some (.list ds)
  | [.tuple ds] => some (.list ds)
  | _ => none
def bRepr : GL
  | [.list ds] => reprD (.list ds)
  | [.tuple ds] => reprD (.tuple ds)
  | [.int i] => reprD (.int i)
  | [.bool b] => reprD (.bool b)
  | [.none] => reprD .none
  | [.str x] => reprD (.str x)
  | _ => none
where reprD (d : D) : Option D := if okD 40 d = true ∧ d.showable = true ∧ d.shown.length ≤ 16777216 then some (.str d.shown) else none

section
variable {X : Cx}
theorem vs1 {K : Frag} {F : Hp} {ρ : List Addr} {vs : List V} {ds : List D} {st : Store} {d : D} (r : RVs K F ρ vs ds) (h : ds.map (rd st) = [d]) : ∃ v e, vs = [v] ∧ ds = [e] ∧ RV K F ρ v e ∧ rd st e = d := by
  cases r with
  | nil => cases h
  | cons a b =>
    cases b with
    | nil => exact ⟨_, _, rfl, rfl, a, by simpa using h⟩
    | cons _ _ => simp at h
theorem vs2 {K : Frag} {F : Hp} {ρ : List Addr} {vs : List V} {ds : List D} {st : Store} {d d' : D} (r : RVs K F ρ vs ds) (h : ds.map (rd st) = [d, d']) : ∃ v v' e e', vs = [v, v'] ∧ ds = [e, e'] ∧ RV K F ρ v e ∧ RV K F ρ v' e' ∧ rd st e = d ∧ rd st e' = d' := by
  cases r with
  | nil => cases h
  | cons a b =>
    cases b with
    | nil => simp at h
    | cons a' b' =>
      cases b' with
      | nil => simp at h; exact ⟨_, _, _, _, rfl, rfl, a, a', h.1, h.2⟩
      | cons _ _ => simp at h
theorem ok_len : CallR X (.builtin "len") (callGR X.K bLen) := by
  intro pins s σ H vs us Q I r h
  obtain ⟨F, ρ, st, ds, z, S, rs, hg, q⟩ := h
  generalize hds : ds.map (rd st) = ds' at hg
  unfold bLen at hg
  split at hg
  · obtain ⟨v, e, rfl, rfl, a, hd⟩ := vs1 rs hds
    have w := view S a
    rw [hd] at w
    obtain ⟨p, xs, rfl, h1, h2⟩ := w
    cases hg
    exact call_len pins s σ H _ us Q I r ⟨_, _, rfl, .inl ⟨xs, h1, rfl⟩, by rw [h2.length]; exact back S q (.int _)⟩
  · obtain ⟨v, e, rfl, rfl, a, hd⟩ := vs1 rs hds
    have w := view S a
    rw [hd] at w
    obtain ⟨p, xs, rfl, h1, h2⟩ := w
    cases hg
    exact call_len pins s σ H _ us Q I r ⟨_, _, rfl, .inr ⟨xs, sqT_mono S.sub h1, rfl⟩, by rw [h2.length]; exact back S q (.int _)⟩
  · obtain ⟨v, e, rfl, rfl, a, hd⟩ := vs1 rs hds
    have w := view S a
    rw [hd] at w
    cases w
    split at hg
    · rename_i x _ hz
      cases hg
      exact call_len pins s σ H _ us Q I r ⟨_, _, rfl, ⟨by rw [line_eq]; exact hz, rfl⟩, back S q (.int _)⟩
    · cases hg
  · cases hg
theorem ok_abs : CallR X (.builtin "abs") (callGR X.K bAbs) := by
  intro pins s σ H vs us Q I r h
  obtain ⟨F, ρ, st, ds, z, S, rs, hg, q⟩ := h
  generalize hds : ds.map (rd st) = ds' at hg
  unfold bAbs at hg
  split at hg
  · obtain ⟨v, e, rfl, rfl, a, hd⟩ := vs1 rs hds
    have w := view S a
    rw [hd] at w
    cases w; cases hg
    exact call_abs pins s σ H _ us Q I r ⟨_, rfl, back S q (.int _)⟩
  · cases hg
theorem ok_int' : CallR X (.type "int") (callGR X.K bInt) := by
  intro pins s σ H vs us Q I r h
  obtain ⟨F, ρ, st, ds, z, S, rs, hg, q⟩ := h
  generalize hds : ds.map (rd st) = ds' at hg
  unfold bInt at hg
  split at hg
  · obtain ⟨v, e, rfl, rfl, a, hd⟩ := vs1 rs hds
    have w := view S a
    rw [hd] at w
    cases w; cases hg
    exact call_int1 pins s σ H _ us Q I r (.inl ⟨_, rfl, back S q (.int _)⟩)
  · obtain ⟨v, e, rfl, rfl, a, hd⟩ := vs1 rs hds
    have w := view S a
    rw [hd] at w
    cases w; cases hg
    exact call_int1 pins s σ H _ us Q I r (.inr ⟨_, rfl, back S q (.int _)⟩)
  · cases hg
theorem min_is {l : List Int} {m k : Int} (h : l.min? = some k) (h1 : m ∈ l) (h2 : ∀ y ∈ l, m ≤ y) : m = k := by
  have a := (List.min?_eq_some_iff (a := k) (xs := l)).mp h
  have b1 := a.2 m h1
  have b2 := h2 k a.1
  omega
theorem max_is {l : List Int} {m k : Int} (h : l.max? = some k) (h1 : m ∈ l) (h2 : ∀ y ∈ l, y ≤ m) : m = k := by
  have a := (List.max?_eq_some_iff (a := k) (xs := l)).mp h
  have b1 := a.2 m h1
  have b2 := h2 k a.1
  omega
theorem ok_min (hc : X.calm = true) : CallR X (.builtin "min") (callGR X.K bMin) := by
  intro pins s σ H vs us Q I r h
  obtain ⟨F, ρ, st, ds, z, S, rs, hg, q⟩ := h
  generalize hds : ds.map (rd st) = ds' at hg
  unfold bMin at hg
  split at hg
  · obtain ⟨v, v', e, e', rfl, rfl, a, a', hd, hd'⟩ := vs2 rs hds
    have w := view S a
    have w' := view S a'
    rw [hd] at w
    rw [hd'] at w'
    cases w; cases w'; cases hg
    exact call_min2 hc pins s σ H _ us Q I r ⟨_, _, rfl, back S q (.int _)⟩
  · obtain ⟨v, e, rfl, rfl, a, hd⟩ := vs1 rs hds
    have w := view S a
    rw [hd] at w
    obtain ⟨p, xs, rfl, h1, h2⟩ := w
    obtain ⟨l, hl, hg⟩ := Option.bind_eq_some_iff.mp hg
    obtain ⟨k, hk, rfl⟩ := Option.map_eq_some_iff.mp hg
    have := asInts_eq hl
    subst this
    rw [h2.ints] at h1
    refine cr_min hc pins s σ H _ us Q I r ⟨p, l, rfl, h1, ?_, fun m m1 m2 => ?_⟩
    · cases l with
      | nil => cases hk
      | cons _ _ => simp
    · rw [min_is hk m1 m2]; exact back S q (.int _)
  · cases hg
theorem ok_max (hc : X.calm = true) : CallR X (.builtin "max") (callGR X.K bMax) := by
  intro pins s σ H vs us Q I r h
  obtain ⟨F, ρ, st, ds, z, S, rs, hg, q⟩ := h
  generalize hds : ds.map (rd st) = ds' at hg
  unfold bMax at hg
  split at hg
  · obtain ⟨v, v', e, e', rfl, rfl, a, a', hd, hd'⟩ := vs2 rs hds
    have w := view S a
    have w' := view S a'
    rw [hd] at w
    rw [hd'] at w'
    cases w; cases w'; cases hg
    exact call_max2 hc pins s σ H _ us Q I r ⟨_, _, rfl, back S q (.int _)⟩
  · obtain ⟨v, e, rfl, rfl, a, hd⟩ := vs1 rs hds
    have w := view S a
    rw [hd] at w
    obtain ⟨p, xs, rfl, h1, h2⟩ := w
    obtain ⟨l, hl, hg⟩ := Option.bind_eq_some_iff.mp hg
    obtain ⟨k, hk, rfl⟩ := Option.map_eq_some_iff.mp hg
    have := asInts_eq hl
    subst this
    rw [h2.ints] at h1
    refine cr_max hc pins s σ H _ us Q I r ⟨p, l, rfl, h1, ?_, fun m m1 m2 => ?_⟩
    · cases l with
      | nil => cases hk
      | cons _ _ => simp
    · rw [max_is hk m1 m2]; exact back S q (.int _)
  · cases hg
theorem ok_sum (hc : X.calm = true) : CallR X (.builtin "sum") (callGR X.K bSum) := by
  intro pins s σ H vs us Q I r h
  obtain ⟨F, ρ, st, ds, z, S, rs, hg, q⟩ := h
  generalize hds : ds.map (rd st) = ds' at hg
  unfold bSum at hg
  split at hg
  · obtain ⟨v, e, rfl, rfl, a, hd⟩ := vs1 rs hds
    have w := view S a
    rw [hd] at w
    obtain ⟨p, xs, rfl, h1, h2⟩ := w
    obtain ⟨l, hl, rfl⟩ := Option.map_eq_some_iff.mp hg
    have := asInts_eq hl
    subst this
    rw [h2.ints] at h1
    exact cr_sum hc pins s σ H _ us Q I r ⟨p, l, rfl, h1, back S q (.int _)⟩
  · obtain ⟨v, e, rfl, rfl, a, hd⟩ := vs1 rs hds
    have w := view S a
    rw [hd] at w
    obtain ⟨p, xs, rfl, h1, h2⟩ := w
    obtain ⟨l, hl, rfl⟩ := Option.map_eq_some_iff.mp hg
    have := asInts_eq hl
    subst this
    rw [h2.ints] at h1
    obtain ⟨its, rv, ht, _⟩ := I.tuple (sqT_mono S.sub h1)
    rw [Vals.ref1 r]
    have hi := rv.ints
    obtain ⟨ys, e⟩ := hi.allInts.items
    have hn : numsOf (intItems ys).toList = l := by rw [← e]; exact hi.numsOf
    rw [nums_intItems] at hn
    rw [e] at ht
    refine PySem.W.ktm_sumG (I.ok.hd hc) ht fun h' tk t' hk => ?_
    rw [preSum_eq, List.take_of_length_le (by simp), hn]
    exact ⟨.int _, H, I.kept hk, ⟨_, rfl⟩, back S q (.int _)⟩
  · cases hg
theorem ok_all (hc : X.calm = true) : CallR X (.builtin "all") (callGR X.K bAll) := by
  intro pins s σ H vs us Q I r h
  obtain ⟨F, ρ, st, ds, z, S, rs, hg, q⟩ := h
  generalize hds : ds.map (rd st) = ds' at hg
  unfold bAll at hg
  split at hg
  · obtain ⟨v, e, rfl, rfl, a, hd⟩ := vs1 rs hds
    have w := view S a
    rw [hd] at w
    obtain ⟨p, xs, rfl, h1, h2⟩ := w
    obtain ⟨l, hl, rfl⟩ := Option.map_eq_some_iff.mp hg
    have := asBools_eq hl
    subst this
    rw [h2.bools] at h1
    exact cr_all hc pins s σ H _ us Q I r ⟨p, l, rfl, h1, back S q (.bl _)⟩
  · cases hg
theorem ok_any (hc : X.calm = true) : CallR X (.builtin "any") (callGR X.K bAny) := by
  intro pins s σ H vs us Q I r h
  obtain ⟨F, ρ, st, ds, z, S, rs, hg, q⟩ := h
  generalize hds : ds.map (rd st) = ds' at hg
  unfold bAny at hg
  split at hg
  · obtain ⟨v, e, rfl, rfl, a, hd⟩ := vs1 rs hds
    have w := view S a
    rw [hd] at w
    obtain ⟨p, xs, rfl, h1, h2⟩ := w
    obtain ⟨l, hl, rfl⟩ := Option.map_eq_some_iff.mp hg
    have := asBools_eq hl
    subst this
    rw [h2.bools] at h1
    exact cr_any hc pins s σ H _ us Q I r ⟨p, l, rfl, h1, back S q (.bl _)⟩
  · cases hg
theorem ok_tuple : CallR X (.type "tuple") (callGR X.K bTuple) := by
  intro pins s σ H vs us Q I r h
  obtain ⟨F, ρ, st, ds, z, S, rs, hg, q⟩ := h
  generalize hds : ds.map (rd st) = ds' at hg
  unfold bTuple at hg
  split at hg
  · obtain ⟨v, e, rfl, rfl, a, hd⟩ := vs1 rs hds
    have w := view S a
    rw [hd] at w
    obtain ⟨p, xs, rfl, h1, h2⟩ := w
    cases hg
    exact call_tuple_of pins s σ H _ us Q I r ⟨p, xs, rfl, .inl ⟨h1, fun l hl => back_tup S hl h2 q⟩⟩
  · obtain ⟨v, e, rfl, rfl, a, hd⟩ := vs1 rs hds
    have w := view S a
    rw [hd] at w
    have wt := w.rvT
    obtain ⟨p, xs, rfl, h1, h2⟩ := w
    cases hg
    exact call_tuple_of pins s σ H _ us Q I r ⟨p, xs, rfl, .inr ⟨sqT_mono S.sub h1, back S q wt⟩⟩
  · cases hg
theorem ok_list : CallR X (.type "list") (callGR X.K bList) := by
  intro pins s σ H vs us Q I r h
  obtain ⟨F, ρ, st, ds, z, S, rs, hg, q⟩ := h
  generalize hds : ds.map (rd st) = ds' at hg
  unfold bList at hg
  split at hg
  · obtain ⟨v, e, rfl, rfl, a, hd⟩ := vs1 rs hds
    have w := view S a
    rw [hd] at w
    obtain ⟨p, xs, rfl, h1, h2⟩ := w
    cases hg
    exact call_list_of pins s σ H _ us Q I r ⟨p, xs, rfl, .inl h1, fun l hl => back_lst S hl h2 q⟩
  · obtain ⟨v, e, rfl, rfl, a, hd⟩ := vs1 rs hds
    have w := view S a
    rw [hd] at w
    obtain ⟨p, xs, rfl, h1, h2⟩ := w
    cases hg
    exact call_list_of pins s σ H _ us Q I r ⟨p, xs, rfl, .inr (sqT_mono S.sub h1), fun l hl => back_lst S hl h2 q⟩
  · cases hg
theorem okD_noDict : ∀ n : Nat, ∀ d : D, okD n d = true → d.hasDict = false := by
  intro n
  induction n with
  | zero => intro d h; cases d <;> first | rfl | (simp [PyData.hasDict]; done) | (simp [okD] at h)
  | succ n ih =>
    intro d h
    cases d with
    | list xs =>
      have h' : xs.all (okD n) = true := by simpa [okD] using h
      simp only [PyData.hasDict]
      clear h
      induction xs with
      | nil => simp [PyData.hasDictAll]
      | cons x xs ihx =>
        rw [List.all_cons, Bool.and_eq_true] at h'
        rw [PyData.hasDictAll, ih x h'.1, ihx h'.2]; rfl
    | tuple xs =>
      have h' : xs.all (okD n) = true := by simpa [okD] using h
      simp only [PyData.hasDict]
      clear h
      induction xs with
      | nil => simp [PyData.hasDictAll]
      | cons x xs ihx =>
        rw [List.all_cons, Bool.and_eq_true] at h'
        rw [PyData.hasDictAll, ih x h'.1, ihx h'.2]; rfl
    | dict _ => simp [okD] at h
    | _ => simp [PyData.hasDict]
theorem ok_repr (hu : X.A.units + 100 < cLine) (hgd : X.A.guards = some []) : CallR X (.builtin "repr") (callGR X.K bRepr) := by
  intro pins s σ H vs us Q I r h
  obtain ⟨F, ρ, st, ds, z, S, rs, hg, q⟩ := h
  generalize hds : ds.map (rd st) = ds' at hg
  have key : ∀ d : D, ds' = [d] → bRepr.reprD d = some z → wpAny (model X.prog X.w) X.A (call (.builtin "repr") us) (EP X pins σ Q) X.xe s := by
    rintro d rfl hg
    obtain ⟨v, e, rfl, rfl, a, hd⟩ := vs1 rs hds
    have w := view S a
    rw [hd] at w
    obtain ⟨u, rfl, ru⟩ := vals1 r
    unfold bRepr.reprD at hg
    split at hg
    · rename_i hc
      cases hg
      obtain ⟨h1, h2, h3⟩ := hc
      obtain ⟨as, hr⟩ := cmp_reads I S ru w h1
      have hnd := okD_noDict _ _ h1
      have hdep := okD_depth _ _ h1
      have fin : ∀ h' u tk, (∀ b o, s.heap.get? b = some o → h'.get? b = some o) → EP X pins σ Q (.str d.shown u) { s with heap := h', toks := tk } := fun h' u tk hk => ⟨.str _, H, I.kept hk, ⟨_, rfl⟩, back S q (.str _)⟩
      cases d with
      | none => cases w; cases ru; exact PySem.P.repr_of_none (fin s.heap _ _ fun _ _ e => e)
      | bool b => cases w; cases ru; exact PySem.P.repr_of_bool (by cases b <;> exact fin s.heap _ _ fun _ _ e => e)
      | int i => cases w; obtain ⟨t, rfl⟩ := ru; exact PySem.P.repr_of_int (by simpa [PyData.showable] using h2) (fin s.heap _ _ fun _ _ e => e)
      | str x => cases w; obtain ⟨t, rfl⟩ := ru; exact PySem.P.repr_of_str (fin s.heap _ _ fun _ _ e => e) (by rw [line_eq]; simpa [PyData.shown] using h3)
      | list xs =>
        obtain ⟨p, ys, rfl, _, _⟩ := w
        cases ru
        exact repr_of_reads' hr h2 (fun e => by rw [hnd] at e; cases e) hgd (by omega) (fun _ _ e => e) fin (by rw [line_eq]; exact h3)
      | tuple xs =>
        obtain ⟨p, ys, rfl, _, _⟩ := w
        cases ru
        exact repr_of_reads' hr h2 (fun e => by rw [hnd] at e; cases e) hgd (by omega) (fun _ _ e => e) fin (by rw [line_eq]; exact h3)
      | dict xs => simp [okD] at h1
    · cases hg
  unfold bRepr at hg
  split at hg
  · exact key _ rfl hg
  · exact key _ rfl hg
  · exact key _ rfl hg
  · exact key _ rfl hg
  · exact key _ rfl hg
  · exact key _ rfl hg
  · cases hg
end
end MP

set_option Elab.async false
set_option linter.all false
set_option maxRecDepth 100000
set_option maxHeartbeats 4000000
/-! MpLoop: targets, iterators, for, comprehensions, while. Own work. -/
namespace MP
open PySem PySem.Spec PyProof.Rows L2
/-! ### targets -/
mutual
inductive Tg where
  | nm (i : Nat)
  | tp (ts : Tgs)
inductive Tgs where
  | nil
  | cons (t : Tg) (r : Tgs)
end
def Tgs.len : Tgs → Nat
  | .nil => 0
  | .cons _ r => r.len + 1
mutual
def tgTG (K : Frag) : Tg → TG
  | .nm i => gName i
  | .tp ts => gTup K ts.len (tgsTG K ts)
def tgsTG (K : Frag) : Tgs → TGs
  | .nil => gNil
  | .cons t r => gCons (tgTG K t) (tgsTG K r)
end
mutual
def tgSet : Tg → D → Ls → Option Ls
  | .nm i, d, ls => some (ls.set i (some d))
  | .tp ts, .tuple ds, ls => tgsSet ts ds ls
  | .tp _, _, _ => none
def tgsSet : Tgs → List D → Ls → Option Ls
  | .nil, [], ls => some ls
  | .cons t r, d :: ds, ls => (tgSet t d ls).bind fun ls' => tgsSet r ds ls'
  | _, _, _ => none
end
mutual
def tgSlots : Tg → List Nat
  | .nm i => [i]
  | .tp ts => tgsSlots ts
def tgsSlots : Tgs → List Nat
  | .nil => []
  | .cons t r => tgSlots t ++ tgsSlots r
end
section
variable {K : Frag} {F : Hp} {ρ : List Addr} {H : Hp}
theorem Loc.set {ls : Ls} {σ : L2.St} {i : Nat} {v : V} {d : D} (L : Loc K F ρ ls σ) (r : RV K F ρ v d) : Loc K F ρ (ls.set i (some d)) (σ.set i (some v)) := by
  refine ⟨by simpa using L.len, fun j e h => ?_⟩
  have hl := L.len
  by_cases q : i = j
  · subst q
    by_cases hi : i < ls.length
    · rw [List.getElem?_set_self hi] at h
      cases h
      exact ⟨v, List.getElem?_set_self (by omega), r⟩
    · rw [List.getElem?_eq_none (by simpa using hi)] at h; cases h
  · rw [List.getElem?_set_ne q] at h
    obtain ⟨w, h1, h2⟩ := L.at_ j e h
    exact ⟨w, by rw [List.getElem?_set_ne q]; exact h1, h2⟩
mutual
theorem tgSet_len : ∀ (t : Tg) (d : D) (ls ls' : Ls), tgSet t d ls = some ls' → ls'.length = ls.length
  | .nm i, d, ls, ls', h => by
    have : ls.set i (some d) = ls' := by simpa [tgSet] using h
    rw [← this]; simp
  | .tp ts, .tuple ds, ls, ls', h => tgsSet_len ts ds ls ls' (by simpa [tgSet] using h)
  | .tp ts, .none, ls, ls', h => by simp [tgSet] at h
  | .tp ts, .bool _, ls, ls', h => by simp [tgSet] at h
  | .tp ts, .int _, ls, ls', h => by simp [tgSet] at h
  | .tp ts, .str _, ls, ls', h => by simp [tgSet] at h
  | .tp ts, .list _, ls, ls', h => by simp [tgSet] at h
  | .tp ts, .dict _, ls, ls', h => by simp [tgSet] at h
theorem tgsSet_len : ∀ (t : Tgs) (d : List D) (ls ls' : Ls), tgsSet t d ls = some ls' → ls'.length = ls.length
  | .nil, [], ls, ls', h => by
    have : ls = ls' := by simpa [tgsSet] using h
    rw [this]
  | .nil, _ :: _, ls, ls', h => by simp [tgsSet] at h
  | .cons t r, [], ls, ls', h => by simp [tgsSet] at h
  | .cons t r, d :: ds, ls, ls', h => by
    obtain ⟨l1, h1, h2⟩ := Option.bind_eq_some_iff.mp (show (tgSet t d ls).bind (fun ls' => tgsSet r ds ls') = some ls' from by simpa [tgsSet] using h)
    rw [tgsSet_len r ds l1 ls' h2, tgSet_len t d ls l1 h1]
end
/-- the slots outside vs stay, so do the lengths -/
def Only (vs : List Nat) (σ σ' : L2.St) : Prop := σ'.length = σ.length ∧ ∀ j, j ∉ vs → σ'[j]? = σ[j]?
mutual
theorem tg_run (sub : ∀ a o, F a = some o → H a = some o) : ∀ (t : Tg) (v : V) (d : D) (ls ls' : Ls) (σ : L2.St) (Q : L2.St → Hp → Prop), RV K F ρ v d → Loc K F ρ ls σ → tgSet t d ls = some ls' →
    (∀ σ', Loc K F ρ ls' σ' → Only (tgSlots t) σ σ' → Q σ' H) → tgTG K t v σ H Q
  | .nm i, v, d, ls, ls', σ, Q, r, L, h, q => by
    have e : ls.set i (some d) = ls' := by simpa [tgSet] using h
    subst e
    exact q _ (L.set r) ⟨by simp, fun j hj => by rw [List.getElem?_set_ne (by simpa [tgSlots] using Ne.symm (by simpa [tgSlots] using hj))]⟩
  | .tp ts, v, .tuple ds, ls, ls', σ, Q, r, L, h, q => by
    cases r with
    | tup s t =>
      rename_i a xs
      refine ⟨a, xs, rfl, sqT_mono sub s, ?_, tgs_run sub ts xs ds ls ls' σ Q t L (by simpa [tgSet] using h) (by simpa [tgSlots] using q)⟩
      have : ∀ (ts : Tgs) (ds : List D) (ls ls' : Ls), tgsSet ts ds ls = some ls' → ds.length = ts.len := by
        intro ts
        induction ts using Tgs.rec (motive_1 := fun _ => True) with
        | nm => trivial
        | tp => trivial
        | nil => intro ds ls ls' h; cases ds <;> simp [tgsSet, Tgs.len] at h ⊢
        | cons t r _ ih =>
          intro ds ls ls' h
          cases ds with
          | nil => simp [tgsSet] at h
          | cons d ds =>
            obtain ⟨l1, h1, h2⟩ := Option.bind_eq_some_iff.mp (show (tgSet t d ls).bind (fun ls' => tgsSet r ds ls') = some ls' from by simpa [tgsSet] using h)
            simp [Tgs.len, ih ds l1 ls' h2]
      rw [t.length]
      exact this ts ds ls ls' (by simpa [tgSet] using h)
  | .tp ts, v, .none, ls, ls', σ, Q, r, L, h, q => by simp [tgSet] at h
  | .tp ts, v, .bool _, ls, ls', σ, Q, r, L, h, q => by simp [tgSet] at h
  | .tp ts, v, .int _, ls, ls', σ, Q, r, L, h, q => by simp [tgSet] at h
  | .tp ts, v, .str _, ls, ls', σ, Q, r, L, h, q => by simp [tgSet] at h
  | .tp ts, v, .list _, ls, ls', σ, Q, r, L, h, q => by simp [tgSet] at h
  | .tp ts, v, .dict _, ls, ls', σ, Q, r, L, h, q => by simp [tgSet] at h
theorem tgs_run (sub : ∀ a o, F a = some o → H a = some o) : ∀ (t : Tgs) (vs : List V) (ds : List D) (ls ls' : Ls) (σ : L2.St) (Q : L2.St → Hp → Prop), RVs K F ρ vs ds → Loc K F ρ ls σ → tgsSet t ds ls = some ls' →
    (∀ σ', Loc K F ρ ls' σ' → Only (tgsSlots t) σ σ' → Q σ' H) → tgsTG K t vs σ H Q
  | .nil, vs, [], ls, ls', σ, Q, r, L, h, q => by
    cases r
    have e : ls = ls' := by simpa [tgsSet] using h
    subst e
    exact ⟨rfl, q σ L ⟨rfl, fun _ _ => rfl⟩⟩
  | .nil, vs, _ :: _, ls, ls', σ, Q, r, L, h, q => by simp [tgsSet] at h
  | .cons t r, vs, [], ls, ls', σ, Q, rr, L, h, q => by simp [tgsSet] at h
  | .cons t r, vs, d :: ds, ls, ls', σ, Q, rr, L, h, q => by
    obtain ⟨l1, h1, h2⟩ := Option.bind_eq_some_iff.mp (show (tgSet t d ls).bind (fun ls' => tgsSet r ds ls') = some ls' from by simpa [tgsSet] using h)
    cases rr with
    | cons a b =>
      refine ⟨_, _, rfl, tg_run sub t _ d ls l1 σ _ a L h1 fun σ1 L1 o1 => ?_⟩
      refine tgs_run sub r _ ds l1 ls' σ1 Q b L1 h2 fun σ2 L2 o2 => q σ2 L2 ⟨by rw [o2.1, o1.1], fun j hj => ?_⟩
      have hj' : j ∉ tgSlots t ∧ j ∉ tgsSlots r := by simpa [tgsSlots] using hj
      rw [o2.2 j hj'.2, o1.2 j hj'.1]
end
end

/-! ### iterators -/
abbrev MI := Ls → Store → Res (List D)
/-- at turn i: an item of ds, or a new tuple that is one -/
def YD (K : Frag) (F : Hp) (ρ : List Addr) (ds : List D) : Nat → Hp → V → Hp → Prop := fun i H x H' =>
  (H' = H ∧ ∃ d, ds[i]? = some d ∧ RV K F ρ x d) ∨ (∃ T xs es, x = .ref T ∧ H T = none ∧ H' = upd H T (.tup xs) ∧ ds[i]? = some (.tuple es) ∧ RVs K F ρ xs es)
def tI (K : Frag) (m : MI) : TI := fun σ H R => ∃ F ρ ls st ds st', Sto K F ρ st H ∧ Loc K F ρ ls σ ∧ m ls st = .ok ds st' ∧
  ∀ F' ρ' H' J, Ext F ρ H F' ρ' H' → Sto K F' ρ' st' H' → Walk J ds.length (fun G => ∀ a o, F' a = some o → G a = some o) (YD K F' ρ' ds) → R J H'
def iterS (a : ME) : MI := fun ls st => (a ls st).bind fun x st1 => match x with
  | .list ds => .ok ds st1
  | .tuple ds => .ok ds st1
  | .str z => .ok (z.cps.toList.map fun c => .str ⟨#[c]⟩) st1
  | _ => .stuck
def rng (lo hi : Int) : List D := (List.range (hi - lo).toNat).map fun i => .int (lo + (i : Nat))
def iterR1 (a : MA) : MI := fun ls st => (a ls st).bind fun xs st1 => match xs with
  | [.int j] => if j ≤ 16777216 ∧ -16777216 ≤ j then .ok (rng 0 j) st1 else .stuck
  | _ => .stuck
def iterR2 (a : MA) : MI := fun ls st => (a ls st).bind fun xs st1 => match xs with
  | [.int i, .int j] => if j ≤ 16777216 ∧ -16777216 ≤ j ∧ i ≤ 16777216 ∧ -16777216 ≤ i then .ok (rng i j) st1 else .stuck
  | _ => .stuck
def zipD : List D → List D → List D
  | x :: xs, y :: ys => .tuple [x, y] :: zipD xs ys
  | _, _ => []
def enumD (i : Nat) : List D → List D
  | [] => []
  | x :: xs => .tuple [.int i, x] :: enumD (i + 1) xs
def iterZ (a : MA) : MI := fun ls st => (a ls st).bind fun xs st1 => match xs with
  | [.list xs, .list ys] => .ok (zipD xs ys) st1
  | [.tuple xs, .tuple ys] => .ok (zipD xs ys) st1
  | _ => .stuck
def iterE (a : MA) : MI := fun ls st => (a ls st).bind fun xs st1 => match xs with
  | [.list xs] => .ok (enumD 0 xs) st1
  | _ => .stuck
theorem PI.imp {X : Cx} {tg e : Expr} {t t' : TI} (h : PI X tg e t) (i : ∀ σ H R, t' σ H R → t σ H R) : PI X tg e t' := ⟨fun pins s σ H R I q => h.run pins s σ H R I (i σ H R q)⟩
/-- several ways to walk one expression -/
theorem PI.or {X : Cx} {tg e : Expr} {t t' : TI} (h : PI X tg e t) (h' : PI X tg e t') : PI X tg e (fun σ H R => t σ H R ∨ t' σ H R) := ⟨fun pins s σ H R I q => q.elim (h.run pins s σ H R I) (h'.run pins s σ H R I)⟩
theorem Walk.ofAt {K : Frag} {F : Hp} {ρ : List Addr} {J : It} {xs : List V} {ds : List D} {n : Nat} {G : Hp → Prop} (w : L2.Walk J n G (YAt xs)) (r : RVs K F ρ xs ds) (hn : n = ds.length) (hG : ∀ H, (∀ a o, F a = some o → H a = some o) → G H) :
    L2.Walk J ds.length (fun G => ∀ a o, F a = some o → G a = some o) (YD K F ρ ds) := by
  subst hn
  exact w.mono hG fun i H x H' _ _ ⟨e, hx⟩ => .inl ⟨e, r.get' hx⟩
theorem zipD_get : ∀ (xs ys : List D) (i : Nat) (x y : D), xs[i]? = some x → ys[i]? = some y → (zipD xs ys)[i]? = some (.tuple [x, y])
  | [], _, _, _, _, h, _ => by simp at h
  | _ :: _, [], _, _, _, _, h => by simp at h
  | a :: xs, b :: ys, 0, x, y, h, h' => by simp at h h'; subst h; subst h'; simp [zipD]
  | a :: xs, b :: ys, i + 1, x, y, h, h' => by simpa [zipD] using zipD_get xs ys i x y (by simpa using h) (by simpa using h')
theorem zipD_length : ∀ (xs ys : List D), (zipD xs ys).length = min xs.length ys.length
  | [], ys => by simp [zipD]
  | _ :: _, [] => by simp [zipD]
  | a :: xs, b :: ys => by simp [zipD, zipD_length xs ys]
theorem enumD_get : ∀ (xs : List D) (k i : Nat) (x : D), xs[i]? = some x → (enumD k xs)[i]? = some (.tuple [.int ((k + i : Nat)), x])
  | [], _, _, _, h => by simp at h
  | a :: xs, k, 0, x, h => by simp at h; subst h; simp [enumD]
  | a :: xs, k, i + 1, x, h => by
    have := enumD_get xs (k + 1) i x (by simpa using h)
    simp only [enumD, List.getElem?_cons_succ, this]
    rw [show k + 1 + i = k + (i + 1) by omega]
theorem enumD_length : ∀ (xs : List D) (k : Nat), (enumD k xs).length = xs.length
  | [], _ => rfl
  | _ :: xs, k => by simp [enumD, enumD_length xs]
section
variable {X : Cx} {tg a : Expr} {ma : ME} {pos : Pos}
theorem ok_iterS (ha : PE X a (tE X.K ma)) : PI X tg a (tI X.K (iterS ma)) :=
  PI.imp (PI.or (L2.pi_list ha) (PI.or (L2.pi_tup ha) (L2.pi_str ha))) fun σ H R ⟨F, ρ, ls, st, ds, st', S, L, hm, q⟩ => by
    obtain ⟨x, st1, h1, hm⟩ := bind_ok hm
    cases x with
    | list xs =>
      cases hm
      refine .inl ⟨F, ρ, ls, st, .list ds, st', S, L, h1, fun F1 ρ1 H1 v e1 S1 r1 => ?_⟩
      cases r1 with
      | lst hq t =>
        refine ⟨_, rfl, ⟨_, sqL_mono S1.sub hq⟩, q F1 ρ1 H1 _ e1 S1 (Walk.ofAt (walk_list (K := X.K)) t t.length fun G hG => sqL_mono hG hq)⟩
    | tuple xs =>
      cases hm
      refine .inr (.inl ⟨F, ρ, ls, st, .tuple ds, st', S, L, h1, fun F1 ρ1 H1 v e1 S1 r1 => ?_⟩)
      cases r1 with
      | tup hq t =>
        exact ⟨_, rfl, ⟨_, sqT_mono S1.sub hq⟩, q F1 ρ1 H1 _ e1 S1 (Walk.ofAt (walk_tup (K := X.K)) t t.length fun G hG => sqT_mono hG hq)⟩
    | str z =>
      cases hm
      refine .inr (.inr ⟨F, ρ, ls, st, .str z, st', S, L, h1, fun F1 ρ1 H1 v e1 S1 r1 => ?_⟩)
      cases r1
      refine ⟨z, rfl, q F1 ρ1 H1 _ e1 S1 ?_⟩
      have w := walk_str (z := z)
      have hn : z.cps.size = (z.cps.toList.map fun c => (PyData.str ⟨#[c]⟩)).length := by simp
      rw [← hn]
      refine w.mono (fun _ _ => trivial) fun i H x H' _ _ ⟨e, c, hc, hx⟩ => .inl ⟨e, .str ⟨#[c]⟩, ?_, by rw [hx]; exact .str _⟩
      rw [List.getElem?_map, Array.getElem?_toList, hc, Option.map_some]
    | _ => cases hm
theorem rng_length (lo hi : Int) : (rng lo hi).length = (hi - lo).toNat := by simp [rng]
theorem walk_rng {K : Frag} {F : Hp} {ρ : List Addr} {lo hi : Int} : L2.Walk (Itr lo (hi - lo).toNat) (rng lo hi).length (fun G => ∀ a o, F a = some o → G a = some o) (YD K F ρ (rng lo hi)) := by
  rw [rng_length]
  refine (walk_range (lo := lo)).mono (fun _ _ => trivial) fun i H x H' hi _ ⟨e, hx⟩ => .inl ⟨e, .int (lo + (i : Nat)), ?_, by rw [hx]; exact .int _⟩
  unfold rng
  rw [List.getElem?_map, List.getElem?_range hi, Option.map_some]
theorem ok_iterR1 {m : MA} {p : Pos} (hg : Gl X "range") (hm : X.mg "range" = none) (ha : PA X [a] (tA X.K m)) (hs : starEach [a] X.env = [(false, eval a X.env)]) : PI X tg (.Call (.Name "range" p) [a] [] pos) (tI X.K (iterR1 m)) :=
  PI.imp (L2.pi_range1 hg hm ha hs) fun σ H R ⟨F, ρ, ls, st, ds, st', S, L, hm, q⟩ => by
    obtain ⟨x, st1, h1, hm⟩ := bind_ok hm
    refine ⟨F, ρ, ls, st, x, st1, S, L, h1, fun F1 ρ1 H1 xs e1 S1 r1 => ?_⟩
    split at hm
    · rename_i j
      split at hm
      · rename_i hc
        cases hm
        cases r1 with
        | cons a b =>
          cases b; cases a
          refine ⟨j, rfl, by omega, by omega, q F1 ρ1 H1 _ e1 S1 ?_⟩
          have := walk_rng (K := X.K) (F := F1) (ρ := ρ1) (lo := 0) (hi := j)
          simpa using this
      · cases hm
    · cases hm
theorem ok_iterR2 {m : MA} {p : Pos} {b : Expr} (hg : Gl X "range") (hm : X.mg "range" = none) (ha : PA X [a, b] (tA X.K m)) (hs : starEach [a, b] X.env = [(false, eval a X.env), (false, eval b X.env)]) (hs2 : starEach [b] X.env = [(false, eval b X.env)]) : PI X tg (.Call (.Name "range" p) [a, b] [] pos) (tI X.K (iterR2 m)) :=
  PI.imp (L2.pi_range2 hg hm ha hs hs2) fun σ H R ⟨F, ρ, ls, st, ds, st', S, L, hm, q⟩ => by
    obtain ⟨x, st1, h1, hm⟩ := bind_ok hm
    refine ⟨F, ρ, ls, st, x, st1, S, L, h1, fun F1 ρ1 H1 xs e1 S1 r1 => ?_⟩
    split at hm
    · rename_i i j
      split at hm
      · rename_i hc
        cases hm
        cases r1 with
        | cons a b =>
          cases b with
          | cons b c =>
            cases c; cases a; cases b
            exact ⟨i, j, rfl, ⟨by omega, by omega, by omega, by omega⟩, q F1 ρ1 H1 _ e1 S1 walk_rng⟩
      · cases hm
    · cases hm
theorem ok_iterZ {m : MA} {p tpos : Pos} {b : Expr} {elts : List Expr} {kk : Nat} (hg : Gl X "zip") (hm : X.mg "zip" = none) (ha : PA X [a, b] (tA X.K m)) (hs : starEach [a, b] X.env = (false, eval a X.env) :: starEach [b] X.env) (hpl : (backTo pos (starEach [b] X.env)).any (·.1) = false) :
    PI X (.Tuple elts kk tpos) (.Call (.Name "zip" p) [a, b] [] pos) (tI X.K (iterZ m)) :=
  PI.imp (RZ.pi_zipA hg hm ha hs hpl) fun σ H R ⟨F, ρ, ls, st, ds, st', S, L, hm, q⟩ => by
    obtain ⟨x, st1, h1, hm⟩ := bind_ok hm
    refine ⟨F, ρ, ls, st, x, st1, S, L, h1, fun F1 ρ1 H1 xs e1 S1 r1 => ?_⟩
    split at hm
    · cases hm
      rename_i us vs
      cases r1 with
      | cons a b =>
        cases b with
        | cons b c =>
          cases c
          cases a with
          | @lst a1 xs1 _ h1 t1 =>
            cases b with
            | @lst a2 xs2 _ h2 t2 =>
              refine ⟨_, _, _, _, rfl, .inl ⟨sqL_mono S1.sub h1, sqL_mono S1.sub h2, q F1 ρ1 H1 _ e1 S1 ?_⟩⟩
              have w := walk_zip (K := X.K) (a := a1) (b := a2) (xs := xs1) (ys := xs2) (n := (zipD us vs).length) (by rw [zipD_length, ← t1.length, ← t2.length])
              refine w.mono (fun G hG => ⟨sqL_mono hG h1, sqL_mono hG h2⟩) fun i G x G' _ _ ⟨T, x1, x2, ex, hT, hG', y1, y2⟩ => ?_
              obtain ⟨d1, k1, r1⟩ := t1.get' y1
              obtain ⟨d2, k2, r2⟩ := t2.get' y2
              exact .inr ⟨T, [x1, x2], [d1, d2], ex, hT, hG', zipD_get _ _ _ _ _ k1 k2, .cons r1 (.cons r2 .nil)⟩
    · cases hm
      rename_i us vs
      cases r1 with
      | cons a b =>
        cases b with
        | cons b c =>
          cases c
          cases a with
          | @tup a1 xs1 _ h1 t1 =>
            cases b with
            | @tup a2 xs2 _ h2 t2 =>
              refine ⟨_, _, _, _, rfl, .inr ⟨sqT_mono S1.sub h1, sqT_mono S1.sub h2, q F1 ρ1 H1 _ e1 S1 ?_⟩⟩
              refine ⟨fun i G hi hG => ?_, fun G hG => ?_, fun i G x G' _ hG y => ?_⟩
              · rw [zipD_length, ← t1.length, ← t2.length] at hi
                have z1 : i < xs1.length := by omega
                have z2 : i < xs2.length := by omega
                exact ⟨_, _, _, _, sqT_mono hG h1, sqT_mono hG h2, List.getElem?_eq_getElem z1, List.getElem?_eq_getElem z2⟩
              · refine ⟨_, _, sqT_mono hG h1, sqT_mono hG h2, ?_⟩
                rw [zipD_length, ← t1.length, ← t2.length]; omega
              · obtain ⟨T, x1, x2, ex, hT, hG', y1, y2⟩ := y
                obtain ⟨d1, k1, r1⟩ := t1.get' (y1 _ (sqT_mono hG h1))
                obtain ⟨d2, k2, r2⟩ := t2.get' (y2 _ (sqT_mono hG h2))
                exact .inr ⟨T, [x1, x2], [d1, d2], ex, hT, hG', zipD_get _ _ _ _ _ k1 k2, .cons r1 (.cons r2 .nil)⟩
    · cases hm
theorem ok_iterE {m : MA} {p tpos : Pos} {elts : List Expr} {kk : Nat} (hg : Gl X "enumerate") (hm : X.mg "enumerate" = none) (ha : PA X [a] (tA X.K m)) (hs : starEach [a] X.env = [(false, eval a X.env)]) :
    PI X (.Tuple elts kk tpos) (.Call (.Name "enumerate" p) [a] [] pos) (tI X.K (iterE m)) :=
  PI.imp (L2.pi_enum hg hm ha hs) fun σ H R ⟨F, ρ, ls, st, ds, st', S, L, hm, q⟩ => by
    obtain ⟨x, st1, h1, hm⟩ := bind_ok hm
    refine ⟨F, ρ, ls, st, x, st1, S, L, h1, fun F1 ρ1 H1 xs e1 S1 r1 => ?_⟩
    split at hm
    · cases hm
      rename_i us
      cases r1 with
      | cons a b =>
        cases b
        cases a with
        | lst h1 t1 =>
          refine ⟨_, _, rfl, sqL_mono S1.sub h1, q F1 ρ1 H1 _ e1 S1 ?_⟩
          rw [enumD_length, ← t1.length]
          refine (walk_enum (K := X.K)).mono (fun G hG => sqL_mono hG h1) fun i G x G' _ _ ⟨T, x1, x2, ex, hT, hG', y1, y2⟩ => ?_
          cases y1
          obtain ⟨d2, k2, r2⟩ := t1.get' y2
          have := enumD_get us 0 i d2 k2
          rw [Nat.zero_add] at this
          exact .inr ⟨T, _, _, ex, hT, hG', this, .cons (.int _) (.cons r2 .nil)⟩
    · cases hm

/-! ### for -/
def forL (g : Tg) (body : MS) : List D → MS
  | [], ls, st => .ok (.nx ls) st
  | d :: r, ls, st => match tgSet g d ls with
    | none => .stuck
    | some ls1 => (body ls1 st).bind fun fl st1 => match fl with
      | .nx ls2 => forL g body r ls2 st1
      | .ct ls2 => forL g body r ls2 st1
      | .bk ls2 => .ok (.nx ls2) st1
      | .rt v => .ok (.rt v) st1
def forS (g : Tg) (it : MI) (body : MS) : MS := fun ls st => (it ls st).bind fun ds st1 => forL g body ds ls st1
/-- what an iterator yields is known -/
theorem yd_run {K : Frag} {F F2 : Hp} {ρ ρ2 : List Addr} {st : Store} {ds : List D} {i : Nat} {H H' : Hp} {x : V} {d : D} (S : Sto K F2 ρ2 st H) (hd : ds[i]? = some d) (y : YD K F ρ ds i H x H') (h1 : ∀ a o, F a = some o → F2 a = some o) (h2 : ∀ (k : Nat) a, ρ[k]? = some a → ρ2[k]? = some a) :
    ∃ F3, Ext F2 ρ2 H F3 ρ2 H' ∧ Sto K F3 ρ2 st H' ∧ RV K F3 ρ2 x d := by
  rcases y with ⟨rfl, e, he, r⟩ | ⟨T, xs, es, rfl, hT, rfl, he, r⟩
  · rw [hd] at he; cases he
    exact ⟨F2, .refl, S, r.mono h1 h2⟩
  · rw [hd] at he; cases he
    exact ⟨upd F2 T (.tup xs), ext_new S hT _, sto_new S hT _, new_tup S hT (r.mono h1 h2)⟩
theorem ok_forS {iter : Expr} {body : List Stmt} {mi : MI} {mb : MS} {g : Tg} (hx : X.xe = fun _ _ => False) (hc : X.calm = true) (hi : PI X tg iter (tI X.K mi)) (hg : PG X tg (tgTG X.K g)) (hb : PSs X body (tS X.K mb)) (hs : ∀ x, foldedSetIterable iter X.env x = pure x) :
    PS X (.For tg iter body [] pos) (tS X.K (forS g mi mb)) := by
  have hp : PassesOwn (model X.prog X.w) X.A X.env X.xe := by rw [hx]; exact PassesOwn.never
  refine L2.PS.imp (L2.ps_for hp hc hi hg hb hs) fun Dn σ H ⟨F, ρ, ls, st, fl, st', S, L, hm, q⟩ => ?_
  obtain ⟨ds, st1, h1, hm⟩ := bind_ok hm
  refine ⟨F, ρ, ls, st, ds, st1, S, L, h1, fun F1 ρ1 H1 J e1 S1 W => ?_⟩
  refine for_it W (fun i σ2 H2 => ∃ F2 ρ2 ls2 st2, Ext F1 ρ1 H1 F2 ρ2 H2 ∧ Sto X.K F2 ρ2 st2 H2 ∧ Loc X.K F2 ρ2 ls2 σ2 ∧ forL g mb (ds.drop i) ls2 st2 = .ok fl st')
    ⟨F1, ρ1, ls, st1, .refl, S1, L.ext e1, by simpa using hm⟩ (fun i σ2 H2 _ ⟨F2, ρ2, ls2, st2, e2, S2, L2', _⟩ a o h => S2.sub a o (e2.frz a o h)) ?_ ?_
  · intro i x σ2 H2 H3 hi ⟨F2, ρ2, ls2, st2, e2, S2, L2', hm2⟩ y
    obtain ⟨d, hd⟩ : ∃ d, ds[i]? = some d := ⟨_, List.getElem?_eq_getElem hi⟩
    obtain ⟨F3, e3, S3, r3⟩ := yd_run S2 hd y e2.frz e2.adr
    have hdrop : ds.drop i = d :: ds.drop (i + 1) := by
      rw [List.drop_eq_getElem_cons hi]
      rw [List.getElem?_eq_getElem hi] at hd
      rw [Option.some.inj hd]
    rw [hdrop] at hm2
    simp only [forL] at hm2
    cases hts : tgSet g d ls2 with
    | none => rw [hts] at hm2; cases hm2
    | some ls3 =>
      rw [hts] at hm2
      obtain ⟨fl3, st3, h3, hm3⟩ := bind_ok hm2
      refine tg_run S3.sub g x d ls2 ls3 σ2 _ r3 (L2'.ext e3) hts fun σ3 L3 _ => ?_
      refine ⟨F3, ρ2, ls3, st2, fl3, st3, S3, L3, h3, ?_⟩
      cases fl3 with
      | nx ls4 => exact fun F4 ρ4 σ4 H4 e4 S4 L4 => ⟨F4, ρ4, ls4, st3, e2.trans (e3.trans e4), S4, L4, hm3⟩
      | ct ls4 => exact fun F4 ρ4 σ4 H4 e4 S4 L4 => ⟨F4, ρ4, ls4, st3, e2.trans (e3.trans e4), S4, L4, hm3⟩
      | bk ls4 =>
        cases hm3
        exact fun F4 ρ4 σ4 H4 e4 S4 L4 => q F4 ρ4 σ4 H4 (e1.trans (e2.trans (e3.trans e4))) S4 L4
      | rt v =>
        cases hm3
        exact fun F4 ρ4 H4 w e4 S4 r4 => q F4 ρ4 H4 w (e1.trans (e2.trans (e3.trans e4))) S4 r4
  · intro σ2 H2 ⟨F2, ρ2, ls2, st2, e2, S2, L2', hm2⟩
    rw [List.drop_length] at hm2
    cases hm2
    exact q F2 ρ2 σ2 H2 (e1.trans e2) S2 L2'

/-! ### list comprehensions -/
def wipeL (ls : Ls) : List Nat → Ls
  | [] => ls
  | v :: vs => (wipeL ls vs).set v none
def lcL (g : Tg) (t : MT) (e : ME) (ls : Ls) : List D → Store → Res (List D)
  | [], st => .ok [] st
  | d :: r, st => match tgSet g d ls with
    | none => .stuck
    | some ls1 => (t ls1 st).bind fun b st1 => if b = true then (e ls1 st1).bind fun y st2 => (lcL g t e ls r st2).bind fun ys st3 => if ys.length < 16777216 then .ok (y :: ys) st3 else .stuck
      else lcL g t e ls r st1
/-- [e for g in it if t]; vs: the slots of the block's own names -/
def lc (vs : List Nat) (g : Tg) (it : MI) (t : MT) (e : ME) : ME := fun ls st => (it ls st).bind fun ds st1 => (lcL g t e (wipeL ls vs) ds st1).bind fun ys st2 => .ok (.list ys) st2
def mlc (vs : List Nat) (g : Tg) (it : MI) (t : MT) (e : ME) : ME := fun ls st => (it ls st).bind fun ds st1 => (lcL g t e (wipeL ls vs) ds st1).bind fun ys st2 => if ys.all (okD 40) = true then .ok (mref st2.length) (st2 ++ [some (.list ys)]) else .stuck
def yesT : MT := fun _ st => .ok true st
theorem Loc.wipe {K : Frag} {F : Hp} {ρ : List Addr} {ls : Ls} {σ : L2.St} (L : Loc K F ρ ls σ) : ∀ vs : List Nat, Loc K F ρ (wipeL ls vs) (wipe σ vs)
  | [] => L
  | v :: vs => by
    have ih := Loc.wipe L vs
    refine ⟨by simpa [wipeL, L2.wipe] using ih.len, fun i d h => ?_⟩
    by_cases q : v = i
    · subst q
      by_cases hv : v < (wipeL ls vs).length
      · rw [wipeL, List.getElem?_set_self hv] at h; cases h
      · rw [wipeL, List.getElem?_eq_none (by simpa using hv)] at h; cases h
    · rw [wipeL, List.getElem?_set_ne q] at h
      obtain ⟨w, h1, h2⟩ := ih.at_ i d h
      exact ⟨w, by rw [L2.wipe, List.getElem?_set_ne q]; exact h1, h2⟩
theorem only_wipe {σ σ2 : L2.St} {vs ws : List Nat} (o : Only ws (wipe σ vs) σ2) (h : ∀ i ∈ ws, i ∈ vs) : wipe σ2 vs = wipe σ vs := by
  have get : ∀ (τ : L2.St) (i : Nat) (vs : List Nat), i ∉ vs → (wipe τ vs)[i]? = τ[i]? := by
    intro τ i vs
    induction vs with
    | nil => intro _; rfl
    | cons v vs ih =>
      intro hi
      rw [L2.wipe, List.getElem?_set_ne (fun e => hi (by simp [e])), ih (fun z => hi (by simp [z]))]
  have getn : ∀ (τ : L2.St) (i : Nat) (vs : List Nat), i ∈ vs → (wipe τ vs)[i]? = if i < τ.length then some none else none := by
    intro τ i vs
    induction vs with
    | nil => intro h; cases h
    | cons v vs ih =>
      intro hi
      by_cases e : v = i
      · subst e
        by_cases hl : v < τ.length
        · rw [L2.wipe, List.getElem?_set_self (by rw [wipe_length]; exact hl), if_pos hl]
        · rw [L2.wipe, List.getElem?_eq_none (by simp [wipe_length]; omega), if_neg hl]
      · rw [L2.wipe, List.getElem?_set_ne e]
        exact ih ((List.mem_cons.mp hi).resolve_left fun z => e z.symm)
  have hl : σ2.length = σ.length := by rw [o.1, wipe_length]
  refine List.ext_getElem? fun i => ?_
  by_cases hi : i ∈ vs
  · rw [getn _ _ _ hi, getn _ _ _ hi, hl]
  · rw [get _ _ _ hi, o.2 i fun z => hi (h i z)]
/-- what the block's pieces do -/
structure BlkDoes (X : Cx) (scope : Scope) (tg : Expr) (ifs : List Expr) (elt : Expr) (g : Tg) (t : MT) (e : ME) : Prop where
  hg : ∀ (s : Shared) (H : Hp) (C : Addr) (cl : List (Str × Addr)) (fp : List Addr), PG (X.blk s H scope (compEnvC scope cl C X.env) fp) tg (tgTG X.K g)
  ht : ∀ (s : Shared) (H : Hp) (C : Addr) (cl : List (Str × Addr)) (fp : List Addr), PTs (X.blk s H scope (compEnvC scope cl C X.env) fp) ifs (tT X.K t)
  he : ∀ (s : Shared) (H : Hp) (C : Addr) (cl : List (Str × Addr)) (fp : List Addr), PE (X.blk s H scope (compEnvC scope cl C X.env) fp) elt (tE X.K e)
theorem ext_alloc {F : Hp} {ρ : List Addr} {H : Hp} {p : Addr} {o : HO} (h : H p = none) : Ext F ρ H F ρ (upd H p o) where
  frz := fun _ _ e => e
  adr := fun _ _ e => e
  new := fun _ e => .inl e
  keep := fun a u e _ => by rw [upd_ne (ne_of_none e h)]; exact e
  none := fun a e => by
    by_cases q : a = p
    · subst q; rw [upd_same] at e; cases e
    · rw [upd_ne q] at e; exact e
  fnw := fun _ _ e => .inl e
theorem sto_alloc {K : Frag} {F : Hp} {ρ : List Addr} {st : Store} {H : Hp} {p : Addr} {o : HO} (s : Sto K F ρ st H) (h : H p = none) : Sto K F ρ st (upd H p o) where
  sub := fun a u e => by rw [upd_ne (ne_of_none (s.sub a u e) h)]; exact s.sub a u e
  nd := s.nd
  len := s.len
  at_ := fun k a e => by
    obtain ⟨xs, h1⟩ := s.at_ k a e
    exact ⟨xs, by rw [upd_ne (ne_of_none h1 h)]; exact h1⟩
  ok := fun k a d e1 e2 => by
    obtain ⟨h1, xs, ds, rfl, h2, h3, h4⟩ := s.ok k a d e1 e2
    exact ⟨h1, xs, ds, rfl, by rw [upd_ne (ne_of_none h2 h)]; exact h2, h3, h4⟩
/-- an object of our own is written -/
theorem Ext.poke {F F' : Hp} {ρ ρ' : List Addr} {H H' : Hp} {p : Addr} {o : HO} (e : Ext F ρ H F' ρ' H') (h : H p = Option.none) : Ext F ρ H F' ρ' (upd H' p o) where
  frz := e.frz
  adr := e.adr
  new := e.new
  keep := fun a u q n => by rw [upd_ne (ne_of_none q h)]; exact e.keep a u q n
  none := fun a q => by
    by_cases z : a = p
    · subst z; exact h
    · rw [upd_ne z] at q; exact e.none a q
  fnw := e.fnw
/-- what is no part of the mirror's heap stays none -/
theorem Ext.own {F F' : Hp} {ρ ρ' : List Addr} {H H' : Hp} {p : Addr} {o : HO} (e : Ext F ρ H F' ρ' H') (hp : H p = some o) (hr : p ∉ ρ) (hf : F p = Option.none) : H' p = some o ∧ p ∉ ρ' ∧ F' p = Option.none := by
  refine ⟨e.keep p o hp hr, fun hm => ?_, ?_⟩
  · rcases e.new p hm with z | z
    · exact hr z
    · rw [hp] at z; cases z
  · cases z : F' p with
    | none => rfl
    | some u =>
      rcases e.fnw p u z with y | y | y
      · rw [hf] at y; cases y
      · rw [hp] at y; cases y
      · exact (hr y).elim
theorem sto_poke {K : Frag} {F : Hp} {ρ : List Addr} {st : Store} {H : Hp} {p : Addr} {o : HO} (s : Sto K F ρ st H) (h : p ∉ ρ) (hf : F p = none) : Sto K F ρ st (upd H p o) where
  sub := fun a u e => by
    have : a ≠ p := fun z => by subst z; rw [hf] at e; cases e
    rw [upd_ne this]; exact s.sub a u e
  nd := s.nd
  len := s.len
  at_ := fun k a e => by
    obtain ⟨xs, h1⟩ := s.at_ k a e
    exact ⟨xs, by rw [upd_ne (fun z => h (by rw [← z]; exact List.mem_of_getElem? e))]; exact h1⟩
  ok := fun k a d e1 e2 => by
    obtain ⟨h1, xs, ds, rfl, h2, h3, h4⟩ := s.ok k a d e1 e2
    exact ⟨h1, xs, ds, rfl, by rw [upd_ne (fun z => h (by rw [← z]; exact List.mem_of_getElem? e1))]; exact h2, h3, h4⟩
theorem lcL_len {g : Tg} {t : MT} {e : ME} {ls : Ls} : ∀ {ds : List D} {st st' : Store} {ys : List D}, lcL g t e ls ds st = .ok ys st' → ys.length ≤ 16777216
  | [], st, st', ys, h => by cases h; simp
  | d :: r, st, st', ys, h => by
    simp only [lcL] at h
    cases hts : tgSet g d ls with
    | none => rw [hts] at h; cases h
    | some ls1 =>
      rw [hts] at h
      obtain ⟨b, st1, h1, h⟩ := bind_ok h
      cases b with
      | false => exact lcL_len h
      | true =>
        obtain ⟨y, st2, h2, h⟩ := bind_ok h
        obtain ⟨zs, st3, h3, h⟩ := bind_ok h
        split at h
        · cases h; simp; omega
        · cases h
theorem lc_reads {K : Frag} {g : Tg} {t : MT} {e : ME} {mi : MI} {vs : List Nat} {σ : L2.St} {H : Hp} {F : Hp} {ρ : List Addr} {ls : Ls} {st st2 : Store} {ds ys : List D} {st1 : Store} {Q : VK} (hv : ∀ i ∈ tgSlots g, i ∈ vs)
    (S : Sto K F ρ st H) (L : Loc K F ρ ls σ) (h1 : mi ls st = .ok ds st1) (hm : lcL g t e (wipeL ls vs) ds st1 = .ok ys st2)
    (q : ∀ F' ρ' H' p xs, Ext F ρ H F' ρ' H' → Sto K F' ρ' st2 H' → H' p = some (.lst xs) → p ∉ ρ' → F' p = none → H p = none → RVs K F' ρ' xs ys → Q (.ref p) H') : tLc (tI K mi) (tgTG K g) (tT K t) (tE K e) vs σ H Q := by
  refine ⟨F, ρ, ls, st, ds, st1, S, L, h1, fun F1 ρ1 H1 J e1 S1 W p hp => ?_⟩
  have hlen := lcL_len hm
  refine lc_it W (fun i H2 => ∃ F2 ρ2 st3 acc accD rest, Ext F1 ρ1 H1 F2 ρ2 H2 ∧ Sto K F2 ρ2 st3 H2 ∧ H2 p = some (.lst acc) ∧ p ∉ ρ2 ∧ F2 p = none ∧ RVs K F2 ρ2 acc accD ∧ lcL g t e (wipeL ls vs) (ds.drop i) st3 = .ok rest st2 ∧ accD ++ rest = ys)
    ?_ (fun i H2 _ ⟨F2, ρ2, st3, acc, accD, rest, e2, S2, _⟩ a o h => S2.sub a o (e2.frz a o h)) ?_ ?_
  · exact ⟨F1, ρ1, st1, [], [], ys, ext_alloc hp, sto_alloc S1 hp, upd_same, S1.rho hp, S1.fnone hp, .nil, by simpa using hm, rfl⟩
  · intro i x H2 H3 hi ⟨F2, ρ2, st3, acc, accD, rest, e2, S2, hp2, pρ2, pF2, r2, hm2, hy⟩ y
    obtain ⟨d, hd⟩ : ∃ d, ds[i]? = some d := ⟨_, List.getElem?_eq_getElem hi⟩
    obtain ⟨F3, e3, S3, r3⟩ := yd_run S2 hd y e2.frz e2.adr
    have hdrop : ds.drop i = d :: ds.drop (i + 1) := by
      rw [List.drop_eq_getElem_cons hi]
      rw [List.getElem?_eq_getElem hi] at hd
      rw [Option.some.inj hd]
    rw [hdrop] at hm2
    simp only [lcL] at hm2
    cases hts : tgSet g d (wipeL ls vs) with
    | none => rw [hts] at hm2; cases hm2
    | some ls3 =>
      rw [hts] at hm2
      obtain ⟨b, st4, h4, hm3⟩ := bind_ok hm2
      obtain ⟨hp3, pρ3, pF3⟩ := e3.own hp2 pρ2 pF2
      refine tg_run S3.sub g x d _ ls3 _ _ r3 ((((L.ext e1).ext e2).ext e3).wipe vs) hts fun σ3 L3 o3 => ⟨only_wipe o3 hv, ?_⟩
      refine ⟨F3, ρ2, ls3, st3, b, st4, S3, L3, h4, fun F4 ρ4 H4 e4 S4 => ?_⟩
      obtain ⟨hp4, pρ4, pF4⟩ := e4.own hp3 pρ3 pF3
      have e14 := e2.trans (e3.trans e4)
      cases b with
      | false =>
        rw [if_neg Bool.false_ne_true] at hm3
        exact ite_ff ⟨F4, ρ4, st4, acc, accD, rest, e14, S4, hp4, pρ4, pF4, r2.ext (e3.trans e4), hm3, hy⟩
      | true =>
        rw [if_pos rfl] at hm3
        obtain ⟨z, st5, h5, hm4⟩ := bind_ok hm3
        obtain ⟨zs, st6, h6, hm5⟩ := bind_ok hm4
        split at hm5
        · cases hm5
          refine ite_tt ⟨F4, ρ4, ls3, st4, z, st5, S4, L3.ext e4, h5, fun F5 ρ5 H5 w e5 S5 r5 => ?_⟩
          obtain ⟨hp5, pρ5, pF5⟩ := e5.own hp4 pρ4 pF4
          have r6 := ((r2.ext (e3.trans e4)).ext e5).append (.cons r5 .nil)
          refine ⟨acc, hp5, ?_, F5, ρ5, st5, acc ++ [w], accD ++ [z], zs, (e14.trans e5).poke hp, sto_poke S5 pρ5 pF5, upd_same, pρ5, pF5, r6, h6, by rw [List.append_assoc]; exact hy⟩
          rw [line_eq, r2.length]
          rw [← hy, List.length_append, List.length_cons] at hlen
          omega
        · cases hm5
  · intro H2 ⟨F2, ρ2, st3, acc, accD, rest, e2, S2, hp2, pρ2, pF2, r2, hm2, hy⟩
    rw [List.drop_length] at hm2
    cases hm2
    rw [List.append_nil] at hy
    subst hy
    exact q F2 ρ2 H2 p acc (e1.trans e2) S2 hp2 pρ2 pF2 (e1.none p hp) r2
section
variable {X : Cx} {pos : Pos}
theorem ok_lc {elt tg iter : Expr} {ifs : List Expr} {scope : Scope} {own : List (Str × Nat)} {g : Tg} {t : MT} {e : ME} {mi : MI} (hc : X.calm = true) (hN : X.N.Nodup) (hi : PI X tg iter (tI X.K mi)) (ok : BlkOk X.N X.env.scope scope own) (hd : BlkDoes X scope tg ifs elt g t e)
    (hv : ∀ i ∈ tgSlots g, i ∈ own.map (·.2)) (hs : ∀ x, foldedSetIterable iter X.env x = pure x) : PE X (.ListComp elt [⟨tg, iter, ifs, 0⟩] scope pos) (tE X.K (lc (own.map (·.2)) g mi t e)) :=
  (L2.pe_lc hc hN hi ok hd.hg hd.ht hd.he hs).imp fun σ H Q ⟨F, ρ, ls, st, d, st', S, L, hm, q⟩ => by
    obtain ⟨ds, st1, h1, hm⟩ := bind_ok hm
    obtain ⟨ys, st2, h2, hm⟩ := bind_ok hm
    cases hm
    refine lc_reads hv S L h1 h2 fun F' ρ' H' p xs e1 S1 hp pρ pF pH r => ?_
    refine q (upd F' p (.lst xs)) ρ' H' (.ref p) ⟨fun a o h => ?_, e1.adr, e1.new, e1.keep, e1.none, fun a o h => ?_⟩ ⟨fun a o h => ?_, S1.nd, S1.len, S1.at_, fun k a d k1 k2 => ?_⟩ (.lst (.inl (.inl upd_same)) (r.mono (fun a o h => ?_) fun _ _ h => h))
    · rw [upd_ne (fun z => by subst z; rw [e1.frz a o h] at pF; cases pF)]; exact e1.frz a o h
    · by_cases z : a = p
      · subst z; exact .inr (.inl pH)
      · rw [upd_ne z] at h; exact e1.fnw a o h
    · by_cases z : a = p
      · subst z; rw [upd_same] at h; cases h; exact hp
      · rw [upd_ne z] at h; exact S1.sub a o h
    · obtain ⟨z1, zs, es, rfl, z2, z3, z4⟩ := S1.ok k a d k1 k2
      have zz : a ≠ p := fun z => pρ (by rw [← z]; exact List.mem_of_getElem? k1)
      refine ⟨by rw [upd_ne zz]; exact z1, zs, es, rfl, z2, z3.mono (fun b u h => ?_) (fun _ _ h => h), z4⟩
      rw [upd_ne (fun z => by subst z; rw [h] at pF; cases pF)]; exact h
    · rw [upd_ne (fun z => by subst z; rw [h] at pF; cases pF)]; exact h
end
end
end MP

set_option Elab.async false
set_option linter.all false
set_option maxRecDepth 100000
set_option maxHeartbeats 4000000
/-! MpStm: methods that change a list, statements. Own work. -/
namespace MP
open PySem PySem.Spec PyProof.Rows L2
theorem PE.or {X : Cx} {e : Expr} {t t' : TE} (h : PE X e t) (h' : PE X e t') : PE X e (fun σ H Q => t σ H Q ∨ t' σ H Q) := ⟨fun pins s σ H Q I q => q.elim (h.run pins s σ H Q I) (h'.run pins s σ H Q I)⟩
/-- a mutable list by its name -/
def getM (st : Store) (x : D) : Option (Nat × List D) :=
  match x with
  | .dict [(.int (.ofNat k), .none)] => match st[k]? with
    | some (some (.list ds)) => some (k, ds)
    | _ => none
  | _ => none
def appE (o e : ME) : ME := fun ls st => (o ls st).bind fun x st1 => (e ls st1).bind fun d st2 => match getM st2 x with
  | some (k, ds) => if okD 40 d = true ∧ ds.length < 16777216 then .ok .none (st2.set k (some (.list (ds ++ [d])))) else .stuck
  | none => .stuck
def extE (o e : ME) : ME := fun ls st => (o ls st).bind fun x st1 => (e ls st1).bind fun d st2 => match getM st2 x with
  | some (k, ds) => match rd st2 d with
    | .list es => if es.all (okD 40) = true ∧ ds.length + es.length ≤ 16777216 then .ok .none (st2.set k (some (.list (ds ++ es)))) else .stuck
    | _ => .stuck
  | none => .stuck
def popE (o e : ME) : ME := fun ls st => (o ls st).bind fun x st1 => (e ls st1).bind fun d st2 => match getM st2 x with
  | some (k, ds) => match d with
    | .int i => if 0 ≤ i ∧ i < 16777216 then match ds[i.toNat]? with
        | some y => .ok y (st2.set k (some (.list (ds.eraseIdx i.toNat))))
        | none => .stuck
      else .stuck
    | _ => .stuck
  | none => .stuck
/-- o[i] = e -/
def setS (o i e : ME) : MS := fun ls st => (e ls st).bind fun d st1 => (o ls st1).bind fun x st2 => (i ls st2).bind fun n st3 => match getM st3 x with
  | some (k, ds) => match n with
    | .int j => match ixN ds.length j with
      | some m => if okD 40 d = true then .ok (.nx ls) (st3.set k (some (.list (ds.set m d)))) else .stuck
      | none => .stuck
    | _ => .stuck
  | none => .stuck
section
variable {K : Frag} {F H : Hp} {ρ : List Addr} {st : Store} {x : V} {d : D} {k : Nat} {ds : List D}
theorem getM_at (s : Sto K F ρ st H) (r : RV K F ρ x d) (h : getM st d = some (k, ds)) : ∃ a xs, x = .ref a ∧ ρ[k]? = some a ∧ st[k]? = some (some (.list ds)) ∧ H a = some (.lst xs) ∧ RVs K F ρ xs ds ∧ ds.all (okD 40) = true := by
  cases r with
  | mrf e =>
    rename_i a j
    have h' : (match st[j]? with | some (some (.list ds)) => some (j, ds) | _ => none) = some (k, ds) := h
    cases q : st[j]? with
    | none => rw [q] at h'; cases h'
    | some o =>
      cases o with
      | none => rw [q] at h'; cases h'
      | some d =>
        obtain ⟨_, xs, es, rfl, h1, h2, h3⟩ := s.ok j a d e q
        rw [q] at h'
        cases h'
        exact ⟨a, xs, rfl, e, q, h1, h2, h3⟩
  | _ => cases h
end
section
variable {X : Cx} {o e : Expr} {mo me : ME} {apos cpos : Pos}
/-- a receiver that is no call -/
def notCall : Expr → Bool
  | .Call .. => false
  | _ => true
theorem base_of {name : Str} {env : Env} (h : notCall o = true) : attributeBase o name env (eval o env) = eval o env := by
  cases o <;> first | rfl | cases h
def notStar : Expr → Bool
  | .Starred .. => false
  | _ => true
theorem star_cons {es : List Expr} {env : Env} (h : notStar e = true) : starEach (e :: es) env = (false, eval e env) :: starEach es env := by
  cases e <;> first | rfl | cases h
theorem star_any {env : Env} {pos : Pos} : ∀ {es : List Expr}, es.all notStar = true → (backTo pos (starEach es env)).any (·.1) = false
  | [], _ => rfl
  | e :: es, h => by
    rw [List.all_cons, Bool.and_eq_true] at h
    rw [star_cons h.1]
    show (false || (backTo pos (starEach es env)).any (·.1)) = false
    rw [star_any h.2]; rfl
theorem few_one {env : Env} (h : notStar e = true) : ((backTo cpos (starEach [e] env)).all (fun x => !x.1) && (backToKw cpos (keywordEach [] env)).all (fun x => x.1.isSome)
      && decide ([e].length + ([] : List Keyword).length + (if ([] : List Keyword).isEmpty then 0 else 1) < 30)) = true := by
  rw [star_cons h]; rfl
/-- o.m(e): a receiver and one argument -/
theorem ok_meth1 {T id : String} {name : Str} {r : V → List V → Hp → VK → Prop} (pa : PlainAttrs T) (slot : Slot T name id) (hty : typeOf (.builtin id) = pure (.type "method_descriptor")) (hm : MtR X id r) (ho : PE X o (tE X.K mo)) (he : PE X e (tE X.K me))
    (hb : notCall o = true) (hs : notStar e = true) (hl : (apos.endLine == cpos.line) = true) {f : D → D → Store → Res D} (hf : ∀ F ρ st d1 d2 z st' H x y Q, Sto X.K F ρ st H → RV X.K F ρ x d1 → RV X.K F ρ y d2 → f d1 d2 st = .ok z st' → (∀ F' ρ' H' v, Ext F ρ H F' ρ' H' → Sto X.K F' ρ' st' H' → RV X.K F' ρ' v z → Q v H') → r x [y] H Q)
    (hT : ∀ F ρ st d1 H x, Sto X.K F ρ st H → RV X.K F ρ x d1 → (∃ d2 st2 z st', f d1 d2 st2 = .ok z st') → tyV X.K T x H) :
    PE X (.Call (.Attribute o name apos) [e] [] cpos) (tE X.K fun ls st => (mo ls st).bind fun x st1 => (me ls st1).bind fun d st2 => f x d st2) :=
  (L2.pe_bm pa slot hty hm ho (ok_consA he ok_nilA (star_cons hs)) (base_of hb) (few_one hs) hl (star_cons hs) (star_any (by rfl))).imp fun σ H Q ⟨F, ρ, ls, st, d, st', S, L, hm, q⟩ => by
    obtain ⟨d1, st1, h1, hm⟩ := bind_ok hm
    obtain ⟨d2, st2, h2, hm⟩ := bind_ok hm
    refine ⟨F, ρ, ls, st, d1, st1, S, L, h1, fun F1 ρ1 H1 x e1 S1 r1 => ⟨hT F1 ρ1 st1 d1 H1 x S1 r1 ⟨d2, st2, d, st', hm⟩, ?_⟩⟩
    refine ⟨F1, ρ1, ls, st1, [d2], st2, S1, L.ext e1, ?_, fun F2 ρ2 H2 xs e2 S2 r2 => ?_⟩
    · show (me ls st1).bind (fun x st1 => (nilA ls st1).bind fun xs st2 => .ok (x :: xs) st2) = _
      rw [h2]; rfl
    · cases r2 with
      | cons a b =>
        cases b
        exact hf F2 ρ2 st2 d1 d2 d st' H2 x _ Q S2 (r1.ext e2) a hm fun F' ρ' H' v e S r => q F' ρ' H' v (e1.trans (e2.trans e)) S r
theorem ty_list {K : Frag} {F H : Hp} {ρ : List Addr} {st : Store} {x : V} {d : D} (s : Sto K F ρ st H) (r : RV K F ρ x d) {k : Nat} {ds : List D} {st2 : Store} (h : getM st2 d = some (k, ds)) : tyV K "list" x H := by
  cases r with
  | mrf e =>
    rename_i a j
    obtain ⟨xs, h1⟩ := s.at_ j a e
    exact .inl ⟨rfl, xs, .inl (.inl h1)⟩
  | _ => cases h
theorem ok_appE (ho : PE X o (tE X.K mo)) (he : PE X e (tE X.K me)) (hb : notCall o = true) (hs : notStar e = true) (hl : (apos.endLine == cpos.line) = true) : PE X (.Call (.Attribute o "append" apos) [e] [] cpos) (tE X.K (appE mo me)) := by
  refine ok_meth1 PySem.F.plainAttrs_list PySem.F.slot_list_append PySem.F.type_list_append mt_append ho he hb hs hl
    (f := fun x d st2 => match getM st2 x with
      | some (k, ds) => if okD 40 d = true ∧ ds.length < 16777216 then .ok .none (st2.set k (some (.list (ds ++ [d])))) else .stuck
      | none => .stuck) ?_ ?_
  · intro F ρ st d1 d2 z st' H x y Q S r1 r2 hf q
    cases hg : getM st d1 with
    | none => simp only [hg] at hf; cases hf
    | some p =>
      obtain ⟨k, ds⟩ := p
      simp only [hg] at hf
      obtain ⟨a, xs, rfl, h1, h2, h3, h4, h5⟩ := getM_at S r1 hg
      split at hf
      · rename_i hc
        cases hf
        refine ⟨a, xs, y, rfl, rfl, h3, by rw [line_eq, h4.length]; exact hc.2, ?_⟩
        exact q _ _ _ _ (ext_set S h1) (sto_set S h1 h2 (h4.append (.cons r2 .nil)) (by rw [List.all_append, h5]; simp [hc.1])) .non
      · cases hf
  · rintro F ρ st d1 H x S r1 ⟨d2, st2, z, st', hf⟩
    cases hg : getM st2 d1 with
    | none => simp only [hg] at hf; cases hf
    | some p => exact ty_list S r1 hg
/-- xs.extend(ys) with any list ys -/
def rExtendL (K : Frag) : V → List V → Hp → VK → Prop := fun x vs H Q => ∃ l b xs zs, x = .ref l ∧ vs = [.ref b] ∧ H l = some (.lst xs) ∧ SqL K H b zs ∧ xs.length + zs.length ≤ sizeLine ∧ Q .non (upd H l (.lst (xs ++ zs)))
theorem list_extendW (l : Addr) (items : Array Value) (n : Nat) (b : Addr) (items2 : Array Value) (n2 : Nat) (dd2 : Option Addr) (sl2 : Array (Option Value)) (hc0 : ¬(!items.isEmpty && Builtin.List.listTooLong (items.size + items2.size)) = true) (hc1 : items.size ≤ sizeLine) (hs2 : items.size + items2.size ≤ sizeLine + 1) :
    Meets (Builtin.«list.extend» ⟨[.ref l, .ref b], []⟩) (fun _ R s => s.heap.get? l = some { cls := .type "list", dict := none, data := .seq items n, slots := #[] } ∧ s.heap.get? b = some { cls := .type "list", dict := dd2, data := .seq items2 n2, slots := sl2 } ∧ R (.ok (.ret Value.none)) { s with heap := s.heap.update l (Obj.mapSeq fun x => x ++ items2), toks := s.toks }) :=
  .of_wp fun prog w A R s h => by
    obtain ⟨hp, g, d, tk, os⟩ := s; obtain ⟨hl, hb, h⟩ := h; have f1 := AutoSeq1.idx_int; have f2 := AutoSeq1.sub_tuple_tuple; have f3 := AutoSeq1.sub_list_list; have f4 := AutoSeq1.sub_tuple_list; have f5 := AutoSeq1.sub_list_tuple
    have hz' : (items ++ items2).size ≤ sizeLine + 1 := by rw [Array.size_append]; exact hs2
    wp_walk using (wpAny_updateSeq hl rfl (hz := hc1) (_hz' := hz')), wpAny_loadPart' hl, wpAny_loadPart' hb; exact ⟨_, rfl, h⟩
theorem mt_extendL : MtM X "list.extend" (rExtendL X.K) := by
  intro pins s σ H x vs v us Q I rx rv h
  obtain ⟨l, b, xs, zs, rfl, rfl, hH, hB, hz, q⟩ := h
  cases rx
  obtain ⟨u, rfl, ru⟩ := rv.one
  cases ru
  obtain ⟨z, its, n, r, hl, e⟩ := I.lstM hH
  obtain ⟨its2, r2, ⟨⟨c2, d2, da2, sl2⟩, n2, e2, hc2, hd2, hs2⟩, z2⟩ := I.list hB
  simp only at hc2 hd2 hs2
  subst hc2 hd2 hs2
  have hl2 := r2.length
  have hsz : its.toArray.size + its2.toArray.size ≤ sizeLine := by rw [List.size_toArray, List.size_toArray]; omega
  have hlong : ¬ (!its.toArray.isEmpty && Builtin.List.listTooLong (its.toArray.size + its2.toArray.size)) = true := by
    rw [notLongL hsz, Bool.and_false]
    exact Bool.false_ne_true
  refine call_meets F.slot_list_extend ⟨_, e, rfl⟩ F.entry_list_extend (F.args_list_extend_2 _ _)
    (list_extendW l its.toArray n b its2.toArray n2 none sl2 hlong (by rw [List.size_toArray]; omega) (by omega)) ⟨e, e2, ?_⟩
  refine ⟨.non, _, I.lset (its' := its ++ its2) hH e (by simp) (r.append r2) ?_, rfl, q⟩
  rw [List.length_append]
  omega
theorem ok_extE (ho : PE X o (tE X.K mo)) (he : PE X e (tE X.K me)) (hb : notCall o = true) (hs : notStar e = true) (hl : (apos.endLine == cpos.line) = true) : PE X (.Call (.Attribute o "extend" apos) [e] [] cpos) (tE X.K (extE mo me)) := by
  refine ok_meth1 PySem.F.plainAttrs_list PySem.F.slot_list_extend PySem.F.type_list_extend mt_extendL ho he hb hs hl
    (f := fun x d st2 => match getM st2 x with
      | some (k, ds) => match rd st2 d with
        | .list es => if es.all (okD 40) = true ∧ ds.length + es.length ≤ 16777216 then .ok .none (st2.set k (some (.list (ds ++ es)))) else .stuck
        | _ => .stuck
      | none => .stuck) ?_ ?_
  · intro F ρ st d1 d2 z st' H x y Q S r1 r2 hf q
    cases hg : getM st d1 with
    | none => simp only [hg] at hf; cases hf
    | some p =>
      obtain ⟨k, ds⟩ := p
      simp only [hg] at hf
      obtain ⟨a, xs, rfl, h1, h2, h3, h4, h5⟩ := getM_at S r1 hg
      have w := view S r2
      split at hf
      · rename_i es hes
        rw [hes] at w
        obtain ⟨b, zs, rfl, k1, k2⟩ := w
        split at hf
        · rename_i hc
          cases hf
          refine ⟨a, b, xs, zs, rfl, rfl, h3, k1, by rw [line_eq, h4.length, k2.length]; exact hc.2, ?_⟩
          exact q _ _ _ _ (ext_set S h1) (sto_set S h1 h2 (h4.append k2) (by rw [List.all_append, h5]; simp [hc.1])) .non
        · cases hf
      · cases hf
  · rintro F ρ st d1 H x S r1 ⟨d2, st2, z, st', hf⟩
    cases hg : getM st2 d1 with
    | none => simp only [hg] at hf; cases hf
    | some p => exact ty_list S r1 hg
theorem RVs.eraseIdx {K : Frag} {F : Hp} {ρ : List Addr} : ∀ {vs : List V} {ds : List D} (i : Nat), RVs K F ρ vs ds → RVs K F ρ (vs.eraseIdx i) (ds.eraseIdx i)
  | _, _, _, .nil => .nil
  | _, _, 0, .cons _ t => t
  | _, _, i + 1, .cons r t => .cons r (RVs.eraseIdx i t)
theorem ok_popE (ho : PE X o (tE X.K mo)) (he : PE X e (tE X.K me)) (hb : notCall o = true) (hs : notStar e = true) (hl : (apos.endLine == cpos.line) = true) : PE X (.Call (.Attribute o "pop" apos) [e] [] cpos) (tE X.K (popE mo me)) := by
  refine ok_meth1 PySem.F.plainAttrs_list PySem.F.slot_list_pop PySem.F.type_list_pop mt_popAt ho he hb hs hl
    (f := fun x d st2 => match getM st2 x with
      | some (k, ds) => match d with
        | .int i => if 0 ≤ i ∧ i < 16777216 then match ds[i.toNat]? with
            | some y => .ok y (st2.set k (some (.list (ds.eraseIdx i.toNat))))
            | none => .stuck
          else .stuck
        | _ => .stuck
      | none => .stuck) ?_ ?_
  · intro F ρ st d1 d2 z st' H x y Q S r1 r2 hf q
    cases hg : getM st d1 with
    | none => simp only [hg] at hf; cases hf
    | some p =>
      obtain ⟨k, ds⟩ := p
      simp only [hg] at hf
      obtain ⟨a, xs, rfl, h1, h2, h3, h4, h5⟩ := getM_at S r1 hg
      split at hf
      · rename_i i
        cases r2
        split at hf
        · rename_i hc
          split at hf
          · rename_i y hy
            cases hf
            obtain ⟨v, hv, rv⟩ := h4.get hy
            have hi : i.toNat < xs.length := (List.getElem?_eq_some_iff.mp hv).1
            refine ⟨a, xs, i, i.toNat, v, rfl, rfl, h3, by omega, by omega, ?_, hv, ?_⟩
            · have := PySem.StrLaws.seqIndex_nonneg (n := xs.length) hc.1 (by omega)
              exact this
            · have all' : (ds.eraseIdx i.toNat).all (okD 40) = true := by
                rw [List.all_eq_true] at h5 ⊢
                exact fun z hz => h5 z (List.mem_of_mem_eraseIdx hz)
              exact q _ _ _ _ (ext_set S h1) (sto_set S h1 h2 (h4.eraseIdx _) all') (rv.ext (ext_set (xs := xs.eraseIdx i.toNat) S h1))
          · cases hf
        · cases hf
      · cases hf
  · rintro F ρ st d1 H x S r1 ⟨d2, st2, z, st', hf⟩
    cases hg : getM st2 d1 with
    | none => simp only [hg] at hf; cases hf
    | some p => exact ty_list S r1 hg
end

/-! ### statements -/
def asg (i : Nat) (e : ME) : MS := fun ls st => (e ls st).bind fun d st1 => .ok (.nx (ls.set i (some d))) st1
def asgT (g : Tg) (e : ME) : MS := fun ls st => (e ls st).bind fun d st1 => match tgSet g d ls with
  | some ls' => .ok (.nx ls') st1
  | none => .stuck
def par2 (i j : Nat) (a : MA) : MS := fun ls st => (a ls st).bind fun ds st1 => match ds with
  | [x, y] => .ok (.nx ((ls.set i (some x)).set j (some y))) st1
  | _ => .stuck
def par3 (i j k : Nat) (a : MA) : MS := fun ls st => (a ls st).bind fun ds st1 => match ds with
  | [x, y, z] => .ok (.nx (((ls.set i (some x)).set j (some y)).set k (some z))) st1
  | _ => .stuck
def retS (e : ME) : MS := fun ls st => (e ls st).bind fun d st1 => .ok (.rt d) st1
def drp (e : ME) : MS := fun ls st => (e ls st).bind fun _ st1 => .ok (.nx ls) st1
def iff (c : MT) (a b : MS) : MS := fun ls st => (c ls st).bind fun k st1 => if k = true then a ls st1 else b ls st1
def skp : MS := fun ls st => .ok (.nx ls) st
def sq (a b : MS) : MS := fun ls st => (a ls st).bind fun fl st1 => match fl with
  | .nx ls1 => b ls1 st1
  | _ => .ok fl st1
def brk : MS := fun ls st => .ok (.bk ls) st
def ctn : MS := fun ls st => .ok (.ct ls) st
def stk : MS := fun _ _ => .stuck
/-- the list in slot i is frozen -/
def frz (i : Nat) : MS := fun ls st => match ls[i]? with
  | some (some x) => match getM st x with
    | some (k, ds) => .ok (.nx (ls.set i (some (.list ds)))) (st.set k none)
    | none => .stuck
  | _ => .stuck
/-- laps enough for any loop -/
def fuel : Nat := 2 ^ 5000
def whl : Nat → MT → MS → MS
  | 0, _, _ => fun _ _ => .stuck
  | n + 1, c, b => fun ls st => (c ls st).bind fun k st1 => if k = true then (b ls st1).bind fun fl st2 => match fl with
      | .nx ls2 => whl n c b ls2 st2
      | .ct ls2 => whl n c b ls2 st2
      | .bk ls2 => .ok (.nx ls2) st2
      | .rt v => .ok (.rt v) st2
    else .ok (.nx ls) st1
section
variable {X : Cx} {pos : Pos} {e : Expr} {me : ME}
theorem ok_asg {i : Nat} {x : Str} {pos' : Pos} (hN : X.N.Nodup) (hi : X.N[i]? = some x) (hx : L2.Loc X.env.scope x) (he : PE X e (tE X.K me)) (hs : swapsWith e (some (.Name x pos')) pos.line X.env = pure false) (hf : X.fn x = true ∨ X.env.scope.names.lookup x = some .local) :
    PS X (.Assign [.Name x pos'] e pos) (tS X.K (asg i me)) :=
  L2.PS.imp (L2.ps_set hN hi hx he hs hf) fun Dn σ H ⟨F, ρ, ls, st, fl, st', S, L, hm, q⟩ => by
    obtain ⟨d, st1, h1, hm⟩ := bind_ok hm
    cases hm
    exact ⟨F, ρ, ls, st, d, st', S, L, h1, fun F1 ρ1 H1 v e1 S1 r1 => q F1 ρ1 _ H1 e1 S1 ((L.ext e1).set r1)⟩
theorem ok_asgT {tg : Expr} {g : Tg} (he : PE X e (tE X.K me)) (hg : PG X tg (tgTG X.K g)) (hs : swapsWithSole [tg] e pos.line X.env = pure false) (hw : swappedStores [tg] e X.env = pure none) (h1 : (assignEach [tg] X.env).map (·.2) = [assign tg X.env]) :
    PS X (.Assign [tg] e pos) (tS X.K (asgT g me)) :=
  L2.PS.imp (L2.ps_asg he hg hs hw h1) fun Dn σ H ⟨F, ρ, ls, st, fl, st', S, L, hm, q⟩ => by
    obtain ⟨d, st1, h1, hm⟩ := bind_ok hm
    split at hm
    · rename_i ls' hts
      cases hm
      exact ⟨F, ρ, ls, st, d, st', S, L, h1, fun F1 ρ1 H1 v e1 S1 r1 => tg_run S1.sub g v d ls ls' σ _ r1 (L.ext e1) hts fun σ' L' _ => q F1 ρ1 σ' H1 e1 S1 L'⟩
    · cases hm
theorem ok_par2 {i j : Nat} {x y : Str} {a b : Expr} {m : MA} {px py pt : Pos} {kt k2 pt2} (hc : X.calm = true) (hN : X.N.Nodup) (hi : X.N[i]? = some x) (hj : X.N[j]? = some y) (hij : i ≠ j)
    (hx : X.env.scope.names.lookup x = some .local) (hy : X.env.scope.names.lookup y = some .local) (ha : PA X [a, b] (tA X.K m))
    (hw : swappedStores [.Tuple [.Name x px, .Name y py] kt pt] (.Tuple [a, b] k2 pt2) X.env = pure (some [x, y]))
    (hs : swapsWithSole [.Tuple [.Name x px, .Name y py] kt pt] (.Tuple [a, b] k2 pt2) pos.line X.env = pure false) :
    PS X (.Assign [.Tuple [.Name x px, .Name y py] kt pt] (.Tuple [a, b] k2 pt2) pos) (tS X.K (par2 i j m)) :=
  L2.PS.imp (L2.ps_par hc hN hi hj hij hx hy ha hw hs) fun Dn σ H ⟨F, ρ, ls, st, fl, st', S, L, hm, q⟩ => by
    obtain ⟨ds, st1, h1, hm⟩ := bind_ok hm
    split at hm
    · cases hm
      refine ⟨F, ρ, ls, st, _, st', S, L, h1, fun F1 ρ1 H1 vs e1 S1 r1 => ?_⟩
      cases r1 with
      | cons r1 r2 =>
        cases r2 with
        | cons r2 r3 =>
          cases r3
          exact ⟨_, _, rfl, q F1 ρ1 _ H1 e1 S1 (((L.ext e1).set r1).set r2)⟩
    · cases hm
theorem ok_ret (he : PE X e (tE X.K me)) : PS X (.Return (some e) pos) (tS X.K (retS me)) :=
  L2.PS.imp (L2.ps_ret he) fun Dn σ H ⟨F, ρ, ls, st, fl, st', S, L, hm, q⟩ => by
    obtain ⟨d, st1, h1, hm⟩ := bind_ok hm
    cases hm
    exact ⟨F, ρ, ls, st, d, st', S, L, h1, fun F1 ρ1 H1 v e1 S1 r1 => q F1 ρ1 H1 v e1 S1 r1⟩
theorem ok_drp (he : PE X e (tE X.K me)) (hs : swapsWith e none pos.line X.env = pure false) : PS X (.Expr e pos) (tS X.K (drp me)) :=
  L2.PS.imp (L2.ps_expr he hs) fun Dn σ H ⟨F, ρ, ls, st, fl, st', S, L, hm, q⟩ => by
    obtain ⟨d, st1, h1, hm⟩ := bind_ok hm
    cases hm
    exact ⟨F, ρ, ls, st, d, st', S, L, h1, fun F1 ρ1 H1 v e1 S1 r1 => q F1 ρ1 σ H1 e1 S1 (L.ext e1)⟩
theorem ok_iff {c : Expr} {a b : List Stmt} {mc : MT} {ma mb : MS} (hc : PT X c (tT X.K mc)) (ha : PSs X a (tS X.K ma)) (hb : PSs X b (tS X.K mb)) : PS X (.If c a b pos) (tS X.K (iff mc ma mb)) :=
  L2.PS.imp (L2.ps_if hc ha hb) fun Dn σ H ⟨F, ρ, ls, st, fl, st', S, L, hm, q⟩ => by
    obtain ⟨k, st1, h1, hm⟩ := bind_ok hm
    refine ⟨F, ρ, ls, st, k, st1, S, L, h1, fun F1 ρ1 H1 e1 S1 => ?_⟩
    cases k with
    | true => exact ite_tt ⟨F1, ρ1, ls, st1, fl, st', S1, L.ext e1, hm, q.ext e1⟩
    | false => exact ite_ff ⟨F1, ρ1, ls, st1, fl, st', S1, L.ext e1, hm, q.ext e1⟩
theorem ok_nil : PSs X [] (tS X.K skp) := L2.PSs.imp L2.pss_nil fun Dn σ H ⟨F, ρ, ls, st, fl, st', S, L, hm, q⟩ => by cases hm; exact q F ρ σ H .refl S L
theorem ok_one {s : Stmt} {m : MS} (h : PS X s (tS X.K m)) : PSs X [s] (tS X.K m) := L2.pss_one h
theorem ok_cons {s : Stmt} {ss : List Stmt} {m ms : MS} (h : PS X s (tS X.K m)) (hs : PSs X ss (tS X.K ms)) : PSs X (s :: ss) (tS X.K (sq m ms)) :=
  L2.PSs.imp (L2.pss_cons h hs) fun Dn σ H ⟨F, ρ, ls, st, fl, st', S, L, hm, q⟩ => by
    obtain ⟨fl1, st1, h1, hm⟩ := bind_ok hm
    refine ⟨F, ρ, ls, st, fl1, st1, S, L, h1, ?_⟩
    cases fl1 with
    | nx ls1 => exact fun F1 ρ1 σ1 H1 e1 S1 L1 => ⟨F1, ρ1, ls1, st1, fl, st', S1, L1, hm, q.ext e1⟩
    | rt v => cases hm; exact q
    | bk v => cases hm; exact q
    | ct v => cases hm; exact q
theorem ok_brk : PS X (.Break pos) (tS X.K brk) := L2.PS.imp L2.ps_break fun Dn σ H ⟨F, ρ, ls, st, fl, st', S, L, hm, q⟩ => by cases hm; exact q F ρ σ H .refl S L
theorem ok_ctn : PS X (.Continue pos) (tS X.K ctn) := L2.PS.imp L2.ps_continue fun Dn σ H ⟨F, ρ, ls, st, fl, st', S, L, hm, q⟩ => by cases hm; exact q F ρ σ H .refl S L
theorem ok_skp : PS X (.Pass pos) (tS X.K skp) := L2.PS.imp L2.ps_pass fun Dn σ H ⟨F, ρ, ls, st, fl, st', S, L, hm, q⟩ => by cases hm; exact q F ρ σ H .refl S L
/-- code that the mirror never comes to -/
theorem ok_stk {s : Stmt} : PS X s (tS X.K stk) := ⟨fun _ _ _ _ _ _ ⟨_, _, _, _, _, _, _, _, hm, _⟩ => by cases hm⟩
/-- a list is frozen ahead of a block -/
theorem ok_frz {ss : List Stmt} {ms : MS} (i : Nat) (h : PSs X ss (tS X.K ms)) : PSs X ss (tS X.K (sq (frz i) ms)) :=
  L2.PSs.imp h fun Dn σ H ⟨F, ρ, ls, st, fl, st', S, L, hm, q⟩ => by
    obtain ⟨fl1, st1, h1, hm⟩ := bind_ok hm
    unfold frz at h1
    split at h1
    · rename_i x hx
      split at h1
      · rename_i k ds hg
        cases h1
        obtain ⟨v, hv, rv⟩ := L.at_ i x hx
        obtain ⟨a, xs, rfl, k1, k2, k3, k4, k5⟩ := getM_at S rv hg
        have hF := (S.ok k a _ k1 k2).1
        have ex := ext_frz (F := F) (H := H) (ρ := ρ) (xs := xs) k1 hF
        refine ⟨_, ρ, _, _, fl, st', sto_frz S k1 hF k3, ⟨by simpa using L.len, fun j d hj => ?_⟩, hm, q.ext ex⟩
        by_cases z : i = j
        · subst z
          rw [List.getElem?_set_self (List.getElem?_eq_some_iff.mp hx).1] at hj
          cases hj
          exact ⟨_, hv, .lst (.inl (.inl upd_same)) (k4.ext ex)⟩
        · rw [List.getElem?_set_ne z] at hj
          obtain ⟨w, h1, h2⟩ := L.at_ j d hj
          exact ⟨w, h1, h2.ext ex⟩
      · cases h1
    · cases h1
theorem ok_setS {o i : Expr} {mo mi : ME} {p2 : Pos} (ho : PE X o (tE X.K mo)) (hi : PE X i (tE X.K mi)) (he : PE X e (tE X.K me)) (hn : (match i with | .Slice .. => false | _ => true) = true)
    (hs : swapsWithSole [.Subscript o i p2] e pos.line X.env = pure false) (hw : swappedStores [.Subscript o i p2] e X.env = pure none) (h1 : (assignEach [.Subscript o i p2] X.env).map (·.2) = [assign (.Subscript o i p2) X.env]) :
    PS X (.Assign [.Subscript o i p2] e pos) (tS X.K (setS mo mi me)) :=
  L2.PS.imp (L2.ps_asg he (L2.pg_sub ho hi set_list (by intro v; cases i <;> first | rfl | cases hn)) hs hw h1) fun Dn σ H ⟨F, ρ, ls, st, fl, st', S, L, hm, q⟩ => by
    obtain ⟨d, st1, h1, hm⟩ := bind_ok hm
    obtain ⟨x, st2, h2, hm⟩ := bind_ok hm
    obtain ⟨n, st3, h3, hm⟩ := bind_ok hm
    split at hm
    · rename_i k ds hg
      split at hm
      · rename_i j
        split at hm
        · rename_i m hix
          split at hm
          · rename_i hok
            cases hm
            refine ⟨F, ρ, ls, st, d, st1, S, L, h1, fun F1 ρ1 H1 v e1 S1 r1 => ?_⟩
            refine ⟨F1, ρ1, ls, st1, x, st2, S1, L.ext e1, h2, fun F2 ρ2 H2 ov e2 S2 r2 => ?_⟩
            refine ⟨F2, ρ2, ls, st2, .int j, st3, S2, (L.ext e1).ext e2, h3, fun F3 ρ3 H3 iv e3 S3 r3 => ?_⟩
            cases r3
            obtain ⟨a, xs, rfl, k1, k2, k3, k4, k5⟩ := getM_at S3 (r2.ext e3) hg
            refine ⟨a, xs, j, m, rfl, rfl, k3, by rw [k4.length]; exact hix, ?_⟩
            have all' : (ds.set m d).all (okD 40) = true := by
              rw [List.all_eq_true] at k5 ⊢
              intro z hz
              rcases List.mem_or_eq_of_mem_set hz with h | h
              · exact k5 z h
              · rw [h]; exact hok
            exact q F3 ρ3 σ _ ((e1.trans (e2.trans e3)).trans (ext_set S3 k1)) (sto_set S3 k1 k2 (k4.set ((r1.ext e2).ext e3) m) all') ((((L.ext e1).ext e2).ext e3).ext (ext_set (xs := xs.set m v) S3 k1))
          · cases hm
        · cases hm
      · cases hm
    · cases hm
theorem ok_whl {c : Expr} {body : List Stmt} {mc : MT} {mb : MS} (n : Nat) (hx : X.xe = fun _ _ => False) (hc : PT X c (tT X.K mc)) (hb : PSs X body (tS X.K mb)) : PS X (.While c body [] pos) (tS X.K (whl n mc mb)) := by
  have hp : PassesOwn (model X.prog X.w) X.A X.env X.xe := by rw [hx]; exact PassesOwn.never
  refine L2.PS.imp (L2.ps_while hp hc hb) fun Dn σ H ⟨F, ρ, ls, st, fl, st', S, L, hm, q⟩ => ?_
  refine ⟨fun m σ1 H1 => ∃ F1 ρ1 ls1 st1, Ext F ρ H F1 ρ1 H1 ∧ Sto X.K F1 ρ1 st1 H1 ∧ Loc X.K F1 ρ1 ls1 σ1 ∧ whl m mc mb ls1 st1 = .ok fl st', ⟨n, F, ρ, ls, st, .refl, S, L, hm⟩, ?_⟩
  rintro m σ1 H1 ⟨F1, ρ1, ls1, st1, e1, S1, L1, hm1⟩
  cases m with
  | zero => cases hm1
  | succ m =>
    obtain ⟨k, st2, h2, hm2⟩ := bind_ok (show (mc ls1 st1).bind _ = .ok fl st' from hm1)
    refine ⟨F1, ρ1, ls1, st1, k, st2, S1, L1, h2, fun F2 ρ2 H2 e2 S2 => ?_⟩
    cases k with
    | false => cases hm2; exact ite_ff (q F2 ρ2 σ1 H2 (e1.trans e2) S2 (L1.ext e2))
    | true =>
      rw [if_pos rfl] at hm2
      obtain ⟨fl3, st3, h3, hm3⟩ := bind_ok hm2
      refine ite_tt ⟨fun σ3 H3 => ∃ F3 ρ3 ls3 st3, Ext F ρ H F3 ρ3 H3 ∧ Sto X.K F3 ρ3 st3 H3 ∧ Loc X.K F3 ρ3 ls3 σ3 ∧ whl m mc mb ls3 st3 = .ok fl st', fun σ' H' h => ⟨m, Nat.lt_succ_self m, h⟩, F2, ρ2, ls1, st2, fl3, st3, S2, L1.ext e2, h3, ?_⟩
      cases fl3 with
      | nx ls4 => exact fun F4 ρ4 σ4 H4 e4 S4 L4 => ⟨F4, ρ4, ls4, st3, e1.trans (e2.trans e4), S4, L4, hm3⟩
      | ct ls4 => exact fun F4 ρ4 σ4 H4 e4 S4 L4 => ⟨F4, ρ4, ls4, st3, e1.trans (e2.trans e4), S4, L4, hm3⟩
      | bk ls4 => cases hm3; exact fun F4 ρ4 σ4 H4 e4 S4 L4 => q F4 ρ4 σ4 H4 (e1.trans (e2.trans e4)) S4 L4
      | rt v => cases hm3; exact fun F4 ρ4 H4 w e4 S4 r4 => q F4 ρ4 H4 w (e1.trans (e2.trans e4)) S4 r4
end
end MP

set_option Elab.async false
set_option linter.all false
set_option maxRecDepth 100000
set_option maxHeartbeats 4000000
/-! MpFn: defs and their calls. Own work. -/
namespace MP
open PySem PySem.Spec PyProof.Rows L2
/-- what a def hands back: a list of its own is frozen; n0: how many lists there were -/
def retD (n0 : Nat) (d : D) (st : Store) : Res D :=
  match d with
  | .dict [(.int (.ofNat k), .none)] => if k < n0 then .ok d (st.take n0) else match st[k]? with
    | some (some (.list ds)) => .ok (.list ds) (st.take n0)
    | _ => .stuck
  | _ => if okD 40 d = true then .ok d (st.take n0) else .stuck
/-- .. or stays a list that may change, the last one -/
def retM (n0 : Nat) (d : D) (st : Store) : Res D :=
  match d with
  | .dict [(.int (.ofNat k), .none)] => if k < n0 then .stuck else match st[k]? with
    | some (some (.list ds)) => .ok (mref n0) (st.take n0 ++ [some (.list ds)])
    | _ => .stuck
  | _ => .stuck
def startL (n : Nat) (ds : List D) : Ls := ds.map some ++ List.replicate (n - ds.length) none
/-- a def of n names with the body b; mt: it hands back a list that may change -/
def fnM (mt : Bool) (n : Nat) (b : MS) : Fn := fun ds st => (b (startL n ds) st).bind fun fl st1 => match fl with
  | .rt d => if mt then retM st.length d st1 else retD st.length d st1
  | .nx _ => if mt then .stuck else .ok .none (st1.take st.length)
  | _ => .stuck
def app (f : Fn) (a : MA) : ME := fun ls st => (a ls st).bind fun ds st1 => f ds st1
structure FnG (P : Program) (w : World) (K : Frag) (mg : Str → Option Value) (base : Heap) (k : Nat) (f : Addr) (fd : FuncData) (ps : List Str) (m : Fn) : Prop where
  run : ∀ (A : Around) (outer : List Env) (s : Shared) (H : Hp) (args : Args) (us : List Value) (vs : List V) (Q : VK) (F : Hp) (ρ : List Addr) (st : Store) (ds : List D) (d : D) (st' : Store), Room k A → A.guards = some [] → Env0 P w K mg base A outer s H → BindsTo s fd args (ps.zip us) → Vals vs us → vs.length = ps.length →
    Sto K F ρ st H → RVs K F ρ vs ds → m ds st = .ok d st' → (∀ F' ρ' H' v, Ext F ρ H F' ρ' H' → Sto K F' ρ' st' H' → RV K F' ρ' v d → Q v H') → codeAny (model P w) A (.call (.ref f) args) (CR CX0 outer P w H s Q (fun _ _ _ => False)) s
theorem FnG.mono {P : Program} {w : World} {K : Frag} {mg : Str → Option Value} {base : Heap} {j k : Nat} {f : Addr} {fd : FuncData} {ps : List Str} {m : Fn} (F : FnG P w K mg base j f fd ps m) (h : j ≤ k) : FnG P w K mg base k f fd ps m :=
  ⟨fun A outer s H args us vs Q F' ρ st ds d st' hr => F.run A outer s H args us vs Q F' ρ st ds d st' (hr.mono h)⟩
theorem FnG.congr {P : Program} {w : World} {K : Frag} {mg : Str → Option Value} {base : Heap} {k : Nat} {f : Addr} {fd : FuncData} {ps : List Str} {m m' : Fn} (F : FnG P w K mg base k f fd ps m) (h : ∀ ds st d st', m' ds st = .ok d st' → m ds st = .ok d st') : FnG P w K mg base k f fd ps m' :=
  ⟨fun A outer s H args us vs Q F' ρ st ds d st' a b c d' e f' g i j => F.run A outer s H args us vs Q F' ρ st ds d st' a b c d' e f' g i (h _ _ _ _ j)⟩
section
variable {K : Frag} {F F' H H' : Hp} {ρ ρ' : List Addr} {st st' : Store}
theorem take_adr (e : Ext F ρ H F' ρ' H') (hl : ρ.length ≤ ρ'.length) : ρ'.take ρ.length = ρ := by
  refine List.ext_getElem? fun i => ?_
  by_cases hi : i < ρ.length
  · rw [List.getElem?_take_of_lt hi]
    have : ρ[i]? = some ρ[i] := List.getElem?_eq_getElem hi
    rw [this, e.adr i _ this]
  · rw [List.getElem?_eq_none (by simp; omega), List.getElem?_eq_none (by omega)]
theorem len_adr (e : Ext F ρ H F' ρ' H') : ρ.length ≤ ρ'.length := by
  by_cases h : ρ.length = 0
  · omega
  · have : ρ[ρ.length - 1]? = some ρ[ρ.length - 1] := List.getElem?_eq_getElem (by omega)
    have := (List.getElem?_eq_some_iff.mp (e.adr _ _ this)).1
    omega
/-- behind a def: the lists that it made are forgotten -/
theorem sto_take (S : Sto K F ρ st H) (e : Ext F ρ H F' ρ' H') (S' : Sto K F' ρ' st' H') : Sto K F' ρ (st'.take st.length) H' where
  sub := S'.sub
  nd := S.nd
  len := by
    have := len_adr e
    rw [List.length_take, S'.len, S.len]; omega
  at_ := fun k a h => S'.at_ k a (e.adr k a h)
  ok := fun k a d h1 h2 => by
    have hk := (List.getElem?_eq_some_iff.mp h1).1
    rw [List.getElem?_take_of_lt (by rw [S.len]; exact hk)] at h2
    obtain ⟨z1, xs, ds, rfl, z2, z3, z4⟩ := S'.ok k a d (e.adr k a h1) h2
    exact ⟨z1, xs, ds, rfl, z2, z3.plain z4, z4⟩
theorem ext_take (e : Ext F ρ H F' ρ' H') : Ext F ρ H F' ρ H' := ⟨e.frz, fun _ _ h => h, fun _ h => .inl h, e.keep, e.none, e.fnw⟩
/-- what is handed back -/
theorem retD_run {d z : D} {v : V} {st2 : Store} {Q : VK} (S : Sto K F ρ st H) (e : Ext F ρ H F' ρ' H') (S' : Sto K F' ρ' st' H') (r : RV K F' ρ' v d) (h : retD st.length d st' = .ok z st2)
    (q : ∀ F' ρ' H' v, Ext F ρ H F' ρ' H' → Sto K F' ρ' st2 H' → RV K F' ρ' v z → Q v H') : Q v H' := by
  cases r with
  | mrf ha =>
    rename_i a k
    have h' : (if k < st.length then Res.ok (mref k) (st'.take st.length) else match st'[k]? with | some (some (.list ds)) => .ok (.list ds) (st'.take st.length) | _ => .stuck) = .ok z st2 := h
    by_cases hk : k < st.length
    · rw [if_pos hk] at h'
      cases h'
      refine q F' ρ H' _ (ext_take e) (sto_take S e S') (.mrf ?_)
      have hk' : k < ρ.length := by rw [← S.len]; exact hk
      have : ρ[k]? = some ρ[k] := List.getElem?_eq_getElem hk'
      have := e.adr k _ this
      rw [ha] at this
      rw [List.getElem?_eq_getElem hk', Option.some.inj this]
    · rw [if_neg hk] at h'
      split at h'
      · rename_i ds hs
        cases h'
        obtain ⟨hF, xs, es, he, h1, h2, h3⟩ := S'.ok k a _ ha hs
        cases he
        have T := sto_take S e S'
        have hna : ∀ j b, ρ[j]? = some b → b ≠ a := fun j b hb z => by
          subst z
          obtain ⟨b1, c1⟩ := List.getElem?_eq_some_iff.mp (e.adr j b hb)
          obtain ⟨b2, c2⟩ := List.getElem?_eq_some_iff.mp ha
          have := (List.getElem_inj S'.nd).mp (c1.trans c2.symm)
          have := (List.getElem?_eq_some_iff.mp hb).1
          rw [← S.len] at this; omega
        have up : ∀ c o, F' c = some o → upd F' a (.lst xs) c = some o := fun c o hc => by rw [upd_ne (fun z => by subst z; rw [hF] at hc; cases hc)]; exact hc
        refine q (upd F' a (.lst xs)) ρ H' _ ⟨fun c o hc => up c o (e.frz c o hc), fun _ _ h => h, fun _ h => .inl h, e.keep, e.none, fun c o hc => ?_⟩ ⟨fun c o hc => ?_, T.nd, T.len, T.at_, fun j b d hb hd => ?_⟩ (.lst (.inl (.inl upd_same)) ((h2.plain h3).mono up fun _ _ h => h))
        · by_cases z : c = a
          · subst z
            rcases e.new c (List.mem_of_getElem? ha) with y | y
            · exact .inr (.inr y)
            · exact .inr (.inl y)
          · rw [upd_ne z] at hc; exact e.fnw c o hc
        · by_cases z : c = a
          · subst z; rw [upd_same] at hc; cases hc; exact h1
          · rw [upd_ne z] at hc; exact S'.sub c o hc
        · obtain ⟨z1, ys, fs, rfl, z2, z3, z4⟩ := T.ok j b d hb hd
          exact ⟨by rw [upd_ne (hna j b hb)]; exact z1, ys, fs, rfl, z2, z3.mono up (fun _ _ h => h), z4⟩
      · cases h'
  | non =>
    have h' : (if okD 40 .none = true then Res.ok .none (st'.take st.length) else .stuck) = .ok z st2 := h
    rw [if_pos (by simp [okD])] at h'; cases h'
    exact q F' ρ H' _ (ext_take e) (sto_take S e S') .non
  | bl b =>
    have h' : (if okD 40 (.bool b) = true then Res.ok (.bool b) (st'.take st.length) else .stuck) = .ok z st2 := h
    rw [if_pos (by simp [okD])] at h'; cases h'
    exact q F' ρ H' _ (ext_take e) (sto_take S e S') (.bl b)
  | int b =>
    have h' : (if okD 40 (.int b) = true then Res.ok (.int b) (st'.take st.length) else .stuck) = .ok z st2 := h
    rw [if_pos (by simp [okD])] at h'; cases h'
    exact q F' ρ H' _ (ext_take e) (sto_take S e S') (.int b)
  | str b =>
    have h' : (if okD 40 (.str b) = true then Res.ok (.str b) (st'.take st.length) else .stuck) = .ok z st2 := h
    rw [if_pos (by simp [okD])] at h'; cases h'
    exact q F' ρ H' _ (ext_take e) (sto_take S e S') (.str b)
  | @lst a xs ds s t =>
    have h' : (if okD 40 (.list ds) = true then Res.ok (.list ds) (st'.take st.length) else .stuck) = .ok z st2 := h
    split at h'
    · rename_i hc
      cases h'
      exact q F' ρ H' _ (ext_take e) (sto_take S e S') ((RV.lst s t).plain 40 hc)
    · cases h'
  | @tup a xs ds s t =>
    have h' : (if okD 40 (.tuple ds) = true then Res.ok (.tuple ds) (st'.take st.length) else .stuck) = .ok z st2 := h
    split at h'
    · rename_i hc
      cases h'
      exact q F' ρ H' _ (ext_take e) (sto_take S e S') ((RV.tup s t).plain 40 hc)
    · cases h'
theorem retM_run {d z : D} {v : V} {st2 : Store} {Q : VK} (S : Sto K F ρ st H) (e : Ext F ρ H F' ρ' H') (S' : Sto K F' ρ' st' H') (r : RV K F' ρ' v d) (h : retM st.length d st' = .ok z st2)
    (q : ∀ F' ρ' H' v, Ext F ρ H F' ρ' H' → Sto K F' ρ' st2 H' → RV K F' ρ' v z → Q v H') : Q v H' := by
  cases r with
  | mrf ha =>
    rename_i a k
    have h' : (if k < st.length then Res.stuck else match st'[k]? with | some (some (.list ds)) => .ok (mref st.length) (st'.take st.length ++ [some (.list ds)]) | _ => .stuck) = .ok z st2 := h
    by_cases hk : k < st.length
    · rw [if_pos hk] at h'; cases h'
    · rw [if_neg hk] at h'
      split at h'
      · rename_i ds hs
        cases h'
        obtain ⟨hF, xs, es, he, h1, h2, h3⟩ := S'.ok k a _ ha hs
        cases he
        have T := sto_take S e S'
        have hna : a ∉ ρ := fun hm => by
          obtain ⟨j, hj⟩ := List.getElem?_of_mem hm
          obtain ⟨b1, c1⟩ := List.getElem?_eq_some_iff.mp (e.adr j a hj)
          obtain ⟨b2, c2⟩ := List.getElem?_eq_some_iff.mp ha
          have := (List.getElem_inj S'.nd).mp (c1.trans c2.symm)
          have := (List.getElem?_eq_some_iff.mp hj).1
          rw [← S.len] at this; omega
        have hadr : ∀ (j : Nat) b, ρ[j]? = some b → (ρ ++ [a])[j]? = some b := fun j b hb => by rw [List.getElem?_append_left (List.getElem?_eq_some_iff.mp hb).1]; exact hb
        refine q F' (ρ ++ [a]) H' _ ⟨e.frz, hadr, fun c hc => ?_, e.keep, e.none, e.fnw⟩ ⟨S'.sub, ?_, by simp [T.len], fun j b hb => ?_, fun j b d hb hd => ?_⟩ (.mrf (by rw [S.len]; simp))
        · rcases List.mem_append.mp hc with y | y
          · exact .inl y
          · have : c = a := by simpa using y
            subst this
            rcases e.new c (List.mem_of_getElem? ha) with y | y
            · exact (hna y).elim
            · exact .inr y
        · rw [List.nodup_append]
          refine ⟨T.nd, by simp, fun b hb c hc z => ?_⟩
          have : c = a := by simpa using hc
          subst this; subst z
          exact hna hb
        · rcases getElem?_snoc hb with hb | ⟨_, hb⟩
          · exact T.at_ j b hb
          · subst hb; exact ⟨xs, h1⟩
        · rcases getElem?_snoc hb with hb | ⟨hj, hb⟩
          · have hd' : (st'.take st.length)[j]? = some (some d) := by
              rcases getElem?_snoc hd with hd | ⟨hl, _⟩
              · exact hd
              · have := (List.getElem?_eq_some_iff.mp hb).1
                rw [hl, T.len] at this; omega
            obtain ⟨z1, ys, fs, rfl, z2, z3, z4⟩ := T.ok j b d hb hd'
            exact ⟨z1, ys, fs, rfl, z2, z3.plain z4, z4⟩
          · subst hb
            have hd' : d = .list ds := by
              rcases getElem?_snoc hd with hd | ⟨_, hd⟩
              · have := (List.getElem?_eq_some_iff.mp hd).1
                rw [hj, T.len] at this; omega
              · exact (Option.some.inj hd).symm
            subst hd'
            exact ⟨hF, xs, ds, rfl, h1, h2.plain h3, h3⟩
      · cases h'
  | _ => cases h
end

/-! ### a call -/
section
variable {X : Cx} {k : Nat} {f : Addr} {fd : FuncData} {ps : List Str} {m : Fn} {x : Str} {p pos : Pos} {e : Expr} {es : List Expr} {ma : MA}
theorem run_fnG {pins : List (Addr × Obj)} {σ : L2.St} {H : Hp} {s : Shared} {Q : VK} {us : List Value} {vs : List V} {F : Hp} {ρ : List Addr} {st st' : Store} {ds : List D} {d : D} (G : FnG X.prog X.w X.K X.mg X.base k f fd ps m) (hr : Room k X.A) (hg : X.A.guards = some []) (hb : Binds X.K fd ps [])
    (I : L2.Inv X pins σ H s) (r : Vals vs us) (hl : vs.length = ps.length) (S : Sto X.K F ρ st H) (rv : RVs X.K F ρ vs ds) (hm : m ds st = .ok d st') (q : ∀ F' ρ' H' v, Ext F ρ H F' ρ' H' → Sto X.K F' ρ' st' H' → RV X.K F' ρ' v d → Q v H') :
    wpAny (model X.prog X.w) X.A (call (.ref f) us) (EP X pins σ Q) X.xe s := by
  have hl2 : (us ++ ([] : List Value)).length = ps.length := by rw [List.append_nil, ← r.length]; exact hl
  have hb' := hb s us I.kIn hl2
  rw [List.append_nil] at hb'
  refine wpAny_call (codeAny_mono (G.run X.A X.stack s H ⟨us, []⟩ us vs Q F ρ st ds d st' hr hg I.env0 hb' r hl S rv hm q) fun r' s' hq => ?_)
  cases r' with
  | error e => exact False.elim hq
  | ok fl =>
    cases fl with
    | ret u => exact I.after hq
    | next => exact False.elim hq
    | brk => exact False.elim hq
    | cont => exact False.elim hq
theorem ok_app (G : FnG X.prog X.w X.K X.mg X.base k f fd ps m) (hr : Room k X.A) (hg : X.A.guards = some []) (hx : Gl X x) (hm : X.mg x = some (.ref f)) (hk : PySem.W.keepIn X.K (.ref f) = true) (hb : Binds X.K fd ps []) (hl : (e :: es).length = ps.length)
    (ha : PA X (e :: es) (tA X.K ma)) (hn : ∀ ls st ds st', ma ls st = .ok ds st' → ds.length = (e :: es).length) (hdb : (x == ("__debug__" : Str)) = false) (hs : (e :: es).all notStar = true) : PE X (.Call (.Name x p) (e :: es) [] pos) (tE X.K (app m ma)) := by
  refine ⟨fun pins s σ H Q I ⟨F, ρ, ls, st, d, st', S, L, hm', q⟩ => ?_⟩
  obtain ⟨ds, st1, h1, hm2⟩ := bind_ok hm'
  rw [List.all_cons, Bool.and_eq_true] at hs
  refine wpAny_Call_Name_kw (ld_glob I hx hm ?_ hdb)
  refine PySem.W.callWith_K (h₀ := X.base) I.ok.mod.kin hk (thn (ha.run pos pins s σ H (fun vs H1 => ∃ F1 ρ1, Ext F ρ H F1 ρ1 H1 ∧ Sto X.K F1 ρ1 st1 H1 ∧ RVs X.K F1 ρ1 vs ds) I ⟨F, ρ, ls, st, ds, st1, S, L, h1, fun F1 ρ1 H1 vs e1 S1 r1 => ⟨F1, ρ1, e1, S1, r1⟩⟩) fun us s1 ⟨vs, H1, I1, r, F1, ρ1, e1, S1, r1⟩ => ⟨I1.kIn, ?_⟩) (star_cons hs.1) (star_any hs.2)
  exact run_fnG G hr hg hb I1 r (by rw [r1.length, hn _ _ _ _ h1]; exact hl) S1 r1 hm2 fun F' ρ' H' v e S r => q F' ρ' H' v (e1.trans e) S r
theorem ok_app0 (G : FnG X.prog X.w X.K X.mg X.base k f fd ps m) (hr : Room k X.A) (hg : X.A.guards = some []) (hx : Gl X x) (hm : X.mg x = some (.ref f)) (hk : PySem.W.keepIn X.K (.ref f) = true) (hb : Binds X.K fd ps []) (hl : 0 = ps.length)
    (hdb : (x == ("__debug__" : Str)) = false) : PE X (.Call (.Name x p) [] [] pos) (tE X.K (app m nilA)) := by
  refine ⟨fun pins s σ H Q I ⟨F, ρ, ls, st, d, st', S, L, hm', q⟩ => ?_⟩
  refine wpAny_Call_Name_kw (ld_glob I hx hm ?_ hdb)
  exact PySem.W.callWith_K0 I.kIn hk (run_fnG (us := []) G hr hg hb I .nil (by simpa using hl) S .nil hm' q)

/-! ### a def by its body -/
theorem start_loc {K : Frag} {F : Hp} {ρ : List Addr} {N : List Str} {vs : List V} {ds : List D} (r : RVs K F ρ vs ds) : Loc K F ρ (startL N.length ds) (L2.start N vs) := by
  have hl := r.length
  refine ⟨by unfold startL L2.start; simp; omega, fun i d h => ?_⟩
  unfold startL at h
  by_cases hi : i < ds.length
  · rw [List.getElem?_append_left (by simpa using hi), List.getElem?_map] at h
    have e : ds[i]? = some d := by
      cases z : ds[i]? with
      | none => rw [z] at h; cases h
      | some y => rw [z] at h; cases h; rfl
    obtain ⟨v, h1, h2⟩ := r.get e
    refine ⟨v, ?_, h2⟩
    unfold L2.start
    rw [List.getElem?_append_left (by simp; omega), List.getElem?_map, h1]; rfl
  · rw [List.getElem?_append_right (by simp; omega), List.getElem?_replicate] at h
    split at h <;> cases h
theorem fnG_of {P : Program} {w : World} {K : Frag} {mg : Str → Option Value} {base : Heap} {k : Nat} {f : Addr} {name qual : Str} {params : Arguments} {body : List Stmt} {scope : Scope} {dV kV doc pm cdv ct oc : Value} {an od : Option Addr}
    {osl : Array (Option Value)} {N ps : List Str} {mt : Bool} {b : MS} (lk : K.lookup f = some ⟨oc, od, .func (PySem.W.fnOf name qual params body scope dV kV doc pm an cdv ct), osl⟩) (hcd : PySem.W.codeIn K cdv qual = true) (S : FnScope N ps scope)
    (hbody : ∀ X : Cx, X.prog = P → X.w = w → X.K = K → X.mg = mg → X.base = base → X.N = N → X.env.scope = scope → X.calm = true → X.xe = (fun _ _ => False) → X.fn = (fun _ => true) → X.A.guards = some [] → Room k X.A → PSs X body (tS K b)) :
    FnG P w K mg base (k + 1) f (PySem.W.fnOf name qual params body scope dV kV doc pm an cdv ct) ps (fnM mt N.length b) := by
  refine ⟨fun A outer s H args us vs Q F ρ st ds d st' hr hg e0 hb r hlen S0 rv hm q => ?_⟩
  have KX : K.In s.heap := e0.mod.kin.keeps fun b o e => (e0.bs b o e).1
  have lim : s.heap.NoLimit := e0.mod.nolimit.keeps fun b o e => (e0.bs b o e).1
  have hkind : ∀ y ∈ ps.zip us, scope.names.lookup y.1 = some .local ∨ (scope.names.lookup y.1 = some .cell ∧ ((cellsFrom (s.heap.objs.size + 1) scope.names []).lookup y.1).isSome = true) := fun ⟨n, v⟩ hy => by
    rcases S.par n (List.of_mem_zip hy).1 with q | q
    · exact .inl q
    · exact .inr ⟨q, PySem.W.cellsFrom_some _ _ _ (.inl q)⟩
  refine codeAny_call_function hr.depth (KX _ _ lk) rfl S.co S.gen rfl (PySem.W.codeRec_of KX hcd) (hb _ _ _ _ ?_)
  refine wpAny_newFunctionEnv_cells S.kind hkind fun env he s1 x => ?_
  subst he
  refine ⟨lim.keeps x.toInCall.keep, codeAny_func ?_⟩
  have I : L2.Inv (cxOf CX0 P w K mg base N qual scope f cdv A outer s H (fun _ _ _ => False)) [] (L2.start N vs) H s1 := inv_start S hr.hd e0 hlen r x
  have hbd := hbody (cxOf CX0 P w K mg base N qual scope f cdv A outer s H (fun _ _ _ => False)).nox rfl rfl rfl rfl rfl rfl rfl rfl rfl rfl hg (hr.deeper _)
  obtain ⟨fl, st1, h1, hm1⟩ := bind_ok hm
  have run := (PSs.nox hbd).run [] s1 (L2.start N vs) H { nx := fun _ H' => Q .non H', rt := Q } I ⟨F, ρ, startL N.length ds, st, fl, st1, S0, start_loc rv, h1, by
    cases fl with
    | nx ls =>
      intro F' ρ' σ' H' e S' L'
      cases mt with
      | true => cases hm1
      | false => cases hm1; exact q F' ρ H' .non (ext_take e) (sto_take S0 e S') .non
    | rt d1 =>
      intro F' ρ' H' v e S' r'
      cases mt with
      | true => exact retM_run S0 e S' r' hm1 q
      | false => exact retD_run S0 e S' r' hm1 q
    | bk ls => cases hm1
    | ct ls => cases hm1⟩
  refine wpAny_mono run (fun fl s' hs => ?_) fun e s' hs => hs
  have fin : ∀ {σ' : L2.St} {H' : Hp} {v : V} {u : Value}, L2.Inv (cxOf CX0 P w K mg base N qual scope f cdv A outer s H (fun _ _ _ => False)) [] σ' H' s' → RelV v u → Q v H' → CE outer P w H s Q u s' :=
    fun {σ' H' v u} J rv q => ⟨v, H', J.os, J.bare, J.base, J.hok, rv, q⟩
  cases fl with
  | ret u =>
    obtain ⟨v, σ', H', J, rv, q⟩ := hs
    exact fin J rv q
  | next =>
    obtain ⟨σ', H', J, q⟩ := hs
    exact fin (v := V.non) (u := Value.none) J rfl q
  | brk =>
    obtain ⟨_, _, _, q⟩ := hs
    exact False.elim q
  | cont =>
    obtain ⟨_, _, _, q⟩ := hs
    exact False.elim q
end
end MP

set_option Elab.async false
set_option linter.all false
set_option maxRecDepth 100000
set_option maxHeartbeats 4000000
/-! MpMore: more expressions and statements. Own work. -/
namespace MP
open PySem PySem.Spec PyProof.Rows L2
theorem gCmp_bool {op : CmpOp} {d e z : D} (h : gCmp op d e = some z) : ∃ b, z = .bool b := by
  have i : ∀ {o : Option Bool} {f : Bool → Bool}, o.map (fun b => PyData.bool (f b)) = some z → ∃ b, z = .bool b := fun h => by
    obtain ⟨b, _, rfl⟩ := Option.map_eq_some_iff.mp h
    exact ⟨_, rfl⟩
  cases op with
  | Eq => have h : gEq d e = some z := h; unfold gEq at h; split at h <;> cases h; exact ⟨_, rfl⟩
  | NotEq => have h : gNe d e = some z := h; unfold gNe at h; split at h <;> cases h; exact ⟨_, rfl⟩
  | Lt =>
    have h : gLt d e = some z := h
    unfold gLt at h; split at h
    · cases h; exact ⟨_, rfl⟩
    · unfold gLtD at h; split at h <;> cases h; exact ⟨_, rfl⟩
  | LtE =>
    have h : gLe d e = some z := h
    unfold gLe at h; split at h
    · cases h; exact ⟨_, rfl⟩
    · unfold gLeD at h; split at h <;> cases h; exact ⟨_, rfl⟩
  | Gt =>
    have h : gGt d e = some z := h
    unfold gGt at h; split at h
    · cases h; exact ⟨_, rfl⟩
    · unfold gGtD at h; split at h <;> cases h; exact ⟨_, rfl⟩
  | GtE =>
    have h : gGe d e = some z := h
    unfold gGe at h; split at h
    · cases h; exact ⟨_, rfl⟩
    · unfold gGeD at h; split at h <;> cases h; exact ⟨_, rfl⟩
  | Is => exact i (f := id) h
  | IsNot => exact i h
  | In => exact i (f := id) h
  | NotIn => exact i h
section
variable {X : Cx} {a b e o : Expr} {ma mb me mo : ME} {pos apos cpos : Pos}
/-- a chain as a value -/
theorem chainV_run (hu : X.A.units + 100 < cLine) {ops : List CmpOp} {es : List Expr} {ms : List (CmpOp × ME)} (h : ChnOk X ops es ms) : ∀ {pins : List (Addr × Obj)} {s : Shared} {σ : L2.St} {H : Hp} {x : V} {v : Value} {F : Hp} {ρ : List Addr} {ls : Ls} {st st' : Store} {d : D} {b : Bool} {Q : VK}
    (I : L2.Inv X pins σ H s) (rx : RelV x v) (S : Sto X.K F ρ st H) (L : Loc X.K F ρ ls σ) (r : RV X.K F ρ x d) (hm : chainT ms d ls st = .ok b st')
    (q : ∀ F' ρ' H', Ext F ρ H F' ρ' H' → Sto X.K F' ρ' st' H' → Q (.bl b) H'), wpAny (model X.prog X.w) X.A (compareChain pos v ops (evalEach es X.env)) (EP X pins σ Q) X.xe s := by
  induction h with
  | @one op e m he =>
    intro pins s σ H x v F ρ ls st st' d b Q I rx S L r hm q
    obtain ⟨y, st1, h1, hm⟩ := bind_ok hm
    obtain ⟨z, st2, h2, hm⟩ := bind_ok hm
    obtain ⟨k, st3, h3, hm⟩ := bind_ok hm
    obtain ⟨hg, rfl⟩ := ofOpt_ok h2
    obtain ⟨ht, rfl⟩ := ofOpt_ok h3
    have hb : k = b ∧ st' = st3 := by
      cases k with
      | true => cases hm; exact ⟨rfl, rfl⟩
      | false => cases hm; exact ⟨rfl, rfl⟩
    obtain ⟨rfl, rfl⟩ := hb
    obtain ⟨c, rfl⟩ := gCmp_bool hg
    have hk : c = k := Option.some.inj ht
    subst hk
    show wpAny _ _ (compareChain pos v [op] [eval e X.env]) _ _ _
    refine chain_last (thn (he.run pins s σ H (fun w H1 => ∃ F1 ρ1, Ext F ρ H F1 ρ1 H1 ∧ Sto X.K F1 ρ1 st' H1 ∧ RV X.K F1 ρ1 w y) I ⟨F, ρ, ls, st, y, st', S, L, h1, fun F1 ρ1 H1 x e1 S1 r1 => ⟨F1, ρ1, e1, S1, r1⟩⟩) fun u s1 ⟨w, H1, I1, r1, F1, ρ1, e1, S1, r2⟩ => ?_)
    exact ok_cmp hu op pins s1 σ H1 x w v u Q I1 rx r1 ⟨F1, ρ1, st', d, y, _, S1, r.ext e1, r2, hg, fun F' ρ' H' v e S r => by cases r; exact q F' ρ' H' (e1.trans e) S⟩
  | @cons op e m ops es ms he hr ih =>
    intro pins s σ H x v F ρ ls st st' d b Q I rx S L r hm q
    obtain ⟨y, st1, h1, hm⟩ := bind_ok hm
    obtain ⟨z, st2, h2, hm⟩ := bind_ok hm
    obtain ⟨k, st3, h3, hm⟩ := bind_ok hm
    obtain ⟨hg, rfl⟩ := ofOpt_ok h2
    obtain ⟨ht, rfl⟩ := ofOpt_ok h3
    obtain ⟨op', ops', e', es', rfl, rfl⟩ := hr.ne
    obtain ⟨c, rfl⟩ := gCmp_bool hg
    have hk : c = k := Option.some.inj ht
    subst hk
    show wpAny _ _ (compareChain pos v (op :: op' :: ops') (eval e X.env :: eval e' X.env :: evalEach es' X.env)) _ _ _
    refine chain_link (thn (he.run pins s σ H (fun w H1 => ∃ F1 ρ1, Ext F ρ H F1 ρ1 H1 ∧ Sto X.K F1 ρ1 st3 H1 ∧ RV X.K F1 ρ1 w y) I ⟨F, ρ, ls, st, y, st3, S, L, h1, fun F1 ρ1 H1 x e1 S1 r1 => ⟨F1, ρ1, e1, S1, r1⟩⟩) fun u s1 ⟨w, H1, I1, r1, F1, ρ1, e1, S1, r2⟩ => ?_)
    refine thn (ok_cmp hu op pins s1 σ H1 x w v u (fun w2 H2 => w2 = .bl c ∧ ∃ F2 ρ2, Ext F1 ρ1 H1 F2 ρ2 H2 ∧ Sto X.K F2 ρ2 st3 H2) I1 rx r1 ⟨F1, ρ1, st3, d, y, _, S1, r.ext e1, r2, hg, fun F' ρ' H' v e S r => by cases r; exact ⟨rfl, F', ρ', e, S⟩⟩) fun c' s2 ⟨w2, H2, I2, r3, ew, F2, ρ2, e2, S2⟩ => ?_
    subst ew
    cases r3
    refine wpAny_truthy_bool ?_
    cases c with
    | false => cases hm; exact ite_ff ⟨.bl false, H2, I2, rfl, q F2 ρ2 H2 (e1.trans e2) S2⟩
    | true => exact ite_tt (ih I2 r1 S2 ((L.ext e1).ext e2) (r2.ext e2) hm fun F' ρ' H' e S => q F' ρ' H' (e1.trans (e2.trans e)) S)
theorem ok_chnE (hu : X.A.units + 100 < cLine) {op op' : CmpOp} {ops : List CmpOp} {e e' : Expr} {es : List Expr} {ms : List (CmpOp × ME)} (ha : PE X a (tE X.K ma)) (h : ChnOk X (op :: op' :: ops) (e :: e' :: es) ms) (hm : lastMarks (op :: op' :: ops) (e :: e' :: es) = false) :
    PE X (.Compare a (op :: op' :: ops) (e :: e' :: es) pos) (tE X.K (valT (chn ma ms))) := by
  refine ⟨fun pins s σ H Q I hh => ?_⟩
  obtain ⟨F, ρ, ls, st, b, st', S, L, hm1, q⟩ := hh
  obtain ⟨k, st0, h0, hm0⟩ := bind_ok hm1
  cases hm0
  obtain ⟨x, st1, h1, hm1⟩ := bind_ok h0
  refine Compare_chain (thn (ha.run pins s σ H (fun w H1 => ∃ F1 ρ1, Ext F ρ H F1 ρ1 H1 ∧ Sto X.K F1 ρ1 st1 H1 ∧ RV X.K F1 ρ1 w x) I ⟨F, ρ, ls, st, x, st1, S, L, h1, fun F1 ρ1 H1 x e1 S1 r1 => ⟨F1, ρ1, e1, S1, r1⟩⟩) fun v s1 ⟨w, H1, I1, r1, F1, ρ1, e1, S1, r2⟩ => ?_) hm
  exact chainV_run hu h I1 r1 S1 (L.ext e1) r2 hm1 fun F' ρ' H' e S => q F' ρ' H' _ (e1.trans e) S (.bl _)

/-! ### built-in calls -/
theorem ok_blt {x : Str} {id : String} {g : GL} {es : List Expr} {m : MA} {p : Pos} (hc : CallR X (.builtin id) (callGR X.K g)) (hg : Gl X x) (hm : X.mg x = none) (hv : bootBuiltins x = some (.builtin id)) (ha : PA X (e :: es) (tA X.K m)) (hn : x ≠ "__name__") (hdb : (x == ("__debug__" : Str)) = false) (hs : (e :: es).all notStar = true) :
    PE X (.Call (.Name x p) (e :: es) [] pos) (tE X.K (blt g m)) := by
  rw [List.all_cons, Bool.and_eq_true] at hs
  refine (L2.pe_callB hc hg hm hv ha hn hdb (star_cons hs.1) (star_any hs.2)).imp fun σ H Q ⟨F, ρ, ls, st, d, st', S, L, hm, q⟩ => ?_
  obtain ⟨ds, st1, h1, hm⟩ := bind_ok hm
  obtain ⟨hg, rfl⟩ := ofOpt_ok hm
  exact ⟨F, ρ, ls, st, ds, st', S, L, h1, fun F1 ρ1 H1 vs e1 S1 r1 => ⟨F1, ρ1, st', ds, d, S1, r1, hg, fun F' ρ' H' v e S r => q F' ρ' H' v (e1.trans e) S r⟩⟩
theorem ok_bltT {x : Str} {T : String} {g : GL} {es : List Expr} {m : MA} {p : Pos} (hc : CallR X (.type T) (callGR X.K g)) (hg : Gl X x) (hm : X.mg x = none) (hv : bootBuiltins x = some (.type T)) (ha : PA X (e :: es) (tA X.K m)) (hn : x ≠ "__name__") (hdb : (x == ("__debug__" : Str)) = false) (hs : (e :: es).all notStar = true) :
    PE X (.Call (.Name x p) (e :: es) [] pos) (tE X.K (blt g m)) := by
  rw [List.all_cons, Bool.and_eq_true] at hs
  refine (L2.pe_callTy hc hg hm hv ha hn hdb (star_cons hs.1) (star_any hs.2)).imp fun σ H Q ⟨F, ρ, ls, st, d, st', S, L, hm, q⟩ => ?_
  obtain ⟨ds, st1, h1, hm⟩ := bind_ok hm
  obtain ⟨hg, rfl⟩ := ofOpt_ok hm
  exact ⟨F, ρ, ls, st, ds, st', S, L, h1, fun F1 ρ1 H1 vs e1 S1 r1 => ⟨F1, ρ1, st', ds, d, S1, r1, hg, fun F' ρ' H' v e S r => q F' ρ' H' v (e1.trans e) S r⟩⟩
/-- list(x) as a list that may change -/
def mutL (a : ME) : ME := fun ls st => (a ls st).bind fun x st1 => match rd st1 x with
  | .list ds => if ds.all (okD 40) = true then .ok (mref st1.length) (st1 ++ [some (.list ds)]) else .stuck
  | .tuple ds => if ds.all (okD 40) = true then .ok (mref st1.length) (st1 ++ [some (.list ds)]) else .stuck
  | _ => .stuck
theorem ok_mutL {p : Pos} (hg : Gl X "list") (hm : X.mg "list" = none) (ha : PE X a (tE X.K ma)) (hs : notStar a = true) : PE X (.Call (.Name "list" p) [a] [] pos) (tE X.K (mutL ma)) := by
  refine (L2.pe_callTy call_list_of hg hm (by decide +kernel) (ok_consA ha ok_nilA (star_cons hs)) (by decide +kernel) (by decide +kernel) (star_cons hs) (star_any (by rfl))).imp fun σ H Q ⟨F, ρ, ls, st, d, st', S, L, hm, q⟩ => ?_
  obtain ⟨x, st1, h1, hm⟩ := bind_ok hm
  refine ⟨F, ρ, ls, st, [x], st1, S, L, ?_, fun F1 ρ1 H1 vs e1 S1 r1 => ?_⟩
  · show (ma ls st).bind (fun x st1 => (nilA ls st1).bind fun xs st2 => .ok (x :: xs) st2) = _
    rw [h1]; rfl
  · cases r1 with
    | cons r1 r2 =>
      cases r2
      have w := view S1 r1
      split at hm
      · rename_i ds hd
        rw [hd] at w
        obtain ⟨p, xs, rfl, k1, k2⟩ := w
        split at hm
        · rename_i hc
          cases hm
          exact ⟨p, xs, rfl, .inl k1, fun l hl => q _ _ _ _ (e1.trans (ext_mut S1 hl _)) (sto_mut S1 hl k2 hc) (new_mut S1)⟩
        · cases hm
      · rename_i ds hd
        rw [hd] at w
        obtain ⟨p, xs, rfl, k1, k2⟩ := w
        split at hm
        · rename_i hc
          cases hm
          exact ⟨p, xs, rfl, .inr (sqT_mono S1.sub k1), fun l hl => q _ _ _ _ (e1.trans (ext_mut S1 hl _)) (sto_mut S1 hl k2 hc) (new_mut S1)⟩
        · cases hm
      · cases hm
/-- list(range(..)) -/
def lstR (it : MI) : ME := fun ls st => (it ls st).bind fun ds st1 => .ok (.list ds) st1
/-- isinstance(e, T) -/
def gIsa : String → D → Option D
  | "int", d => if okD 40 d = true then some (.bool d.isInt) else none
  | "bool", d => if okD 40 d = true then some (.bool d.isBool) else none
  | "tuple", d => if okD 40 d = true then some (.bool d.isTuple) else none
  | "list", d => if okD 40 d = true then some (.bool d.isList) else none
  | "str", d => if okD 40 d = true then some (.bool d.isStr) else none
  | _, _ => none
theorem ok_isa {T : String} {p p2 : Pos} {t : Str} (ht : bootBuiltins t = some (.type T)) (hT : T = "int" ∨ T = "bool" ∨ T = "tuple" ∨ T = "list" ∨ T = "str") (hg : Gl X "isinstance") (hm : X.mg "isinstance" = none) (hg2 : Gl X t) (hm2 : X.mg t = none) (hn : t ≠ "__name__") (hdb : (t == ("__debug__" : Str)) = false)
    (ha : PE X a (tE X.K ma)) (hs : notStar a = true) : PE X (.Call (.Name "isinstance" p) [a, .Name t p2] [] pos) (tE X.K (una (gIsa T) ma)) := by
  have hN : PE X (.Name t p2) (tC (.ty T)) := L2.pe_bltn hg2 hm2 ht rfl hn hdb
  have hA : PA X [a, .Name t p2] (tCons (tE X.K ma) (tCons (tC (.ty T)) tNil)) := L2.pa_cons ha (L2.pa_cons hN L2.pa_nil rfl) (star_cons hs)
  have hC : CallR X (.builtin "isinstance") (fun xs H Q => ∃ F ρ st d z x, xs = [x, .ty T] ∧ Sto X.K F ρ st H ∧ RV X.K F ρ x d ∧ gIsa T (rd st d) = some z ∧ ∀ F' ρ' H' v, Ext F ρ H F' ρ' H' → Sto X.K F' ρ' st H' → RV X.K F' ρ' v z → Q v H') := by
    intro pins s σ H xs us Q I r h
    obtain ⟨F, ρ, st, d, z, x, rfl, S, rv, hg, q⟩ := h
    obtain ⟨u, w', rfl, r1, r2⟩ := vals2 r
    have e2 : w' = Value.type T := r2
    subst e2
    have vw := view S rv
    generalize rd st d = d' at *
    have key : ∀ (f : D → Bool), (if okD 40 d' = true then some (PyData.bool (f d')) else none) = some z → (∀ as, Reads s.heap u d' as → (∀ tk, s.toks ≤ tk → EP X pins σ Q (.bool (f d')) { s with toks := tk }) → wpAny (model X.prog X.w) X.A (call (.builtin "isinstance") [u, .type T]) (EP X pins σ Q) X.xe s) →
        wpAny (model X.prog X.w) X.A (call (.builtin "isinstance") [u, .type T]) (EP X pins σ Q) X.xe s := by
      intro f hf k
      split at hf
      · rename_i hc
        cases hf
        obtain ⟨as, hr⟩ := cmp_reads I S r1 vw hc
        exact k as hr fun tk _ => ⟨.bl _, H, I.tok tk, rfl, back S q (.bl _)⟩
      · cases hf
    rcases hT with rfl | rfl | rfl | rfl | rfl
    · exact key PyData.isInt hg fun as hr k => PySem.W.isinstance_int_data hr k
    · exact key PyData.isBool hg fun as hr k => PySem.W.isinstance_bool_data hr k
    · exact key PyData.isTuple hg fun as hr k => PySem.W.isinstance_tuple_data hr k
    · exact key PyData.isList hg fun as hr k => PySem.W.isinstance_list_data hr k
    · exact key PyData.isStr hg fun as hr k => PySem.W.isinstance_str_data hr k
  refine (L2.pe_callB hC hg hm (by decide +kernel) hA (by decide +kernel) (by decide +kernel) (star_cons hs) (star_any (by rfl))).imp fun σ H Q ⟨F, ρ, ls, st, d, st', S, L, hm, q⟩ => ?_
  obtain ⟨d1, st1, h1, hm⟩ := bind_ok hm
  obtain ⟨hg, rfl⟩ := ofOpt_ok hm
  exact ⟨F, ρ, ls, st, d1, st', S, L, h1, fun F1 ρ1 H1 x e1 S1 r1 => ⟨F1, ρ1, st', d1, d, x, rfl, S1, r1, hg, fun F' ρ' H' v e S r => q F' ρ' H' v (e1.trans e) S r⟩⟩

/-! ### methods that ask -/
def gCount : G2 := fun d e => match d with
  | .list ds => if okD 40 e = true ∧ ds.all (okD 40) = true then some (.int (ds.countP fun y => PyData.eqv y e : Nat)) else none
  | .str x => match e with
    | .str y => some (.int (Txt.count x y))
    | _ => none
  | _ => none
theorem mt_countL (hu : X.A.units + 100 < cLine) : MtR X "list.count" (fun x xs H Q => ∃ F ρ st d1 d2 ds y, xs = [y] ∧ Sto X.K F ρ st H ∧ RV X.K F ρ x d1 ∧ RV X.K F ρ y d2 ∧ rd st d1 = .list ds ∧ okD 40 (rd st d2) = true ∧ ds.all (okD 40) = true ∧ Q (.int (ds.countP fun y => PyData.eqv y (rd st d2) : Nat)) H) := by
  intro pins s σ H x xs v us Q I rx rs h
  obtain ⟨F, ρ, st, d1, d2, ds, y, rfl, S, r1, r2, hd, h1, h2, q⟩ := h
  obtain ⟨u, rfl, ru⟩ := rs.one
  have w1 := view S r1
  have w2 := view S r2
  rw [hd] at w1
  obtain ⟨p1, p2⟩ := okD_all h2
  obtain ⟨bs, a2⟩ := cmp_reads I S ru w2 h1
  obtain ⟨as, a1⟩ := cmp_reads (n := 41) I S rx w1 (by simpa [okD] using h2)
  have n1 := okD_depth _ _ h1
  cases a1 with
  | list k1 k2 k3 k4 => exact PySem.SeqAt.count_list_data ⟨_, k1, k2, _, k3⟩ k4 a2 p1 (okD_plain _ _ h1) (by omega) ⟨.int _, H, I.tok _, ⟨_, rfl⟩, q⟩
theorem ok_count (hu : X.A.units + 100 < cLine) (ho : PE X o (tE X.K mo)) (he : PE X e (tE X.K me)) (hb : notCall o = true) (hs : notStar e = true) (hl : (apos.endLine == cpos.line) = true) : PE X (.Call (.Attribute o "count" apos) [e] [] cpos) (tE X.K (bin gCount mo me)) := by
  have pL := L2.pe_bm (name := "count") PySem.F.plainAttrs_list PySem.F.slot_list_count PySem.F.type_list_count (mt_countL hu) ho (ok_consA he ok_nilA (star_cons hs)) (base_of hb) (few_one hs) hl (star_cons hs) (star_any (by rfl))
  have pS := L2.pe_bm (name := "count") PySem.F.plainAttrs_str PySem.F.slot_str_count PySem.F.type_str_count mt_count ho (ok_consA he ok_nilA (star_cons hs)) (base_of hb) (few_one hs) hl (star_cons hs) (star_any (by rfl))
  refine (PE.or pL pS).imp fun σ H Q ⟨F, ρ, ls, st, d, st', S, L, hm, q⟩ => ?_
  obtain ⟨d1, st1, h1, hm⟩ := bind_ok hm
  obtain ⟨d2, st2, h2, hm⟩ := bind_ok hm
  obtain ⟨hg, rfl⟩ := ofOpt_ok hm
  have hA : consA me nilA ls st1 = .ok [d2] st' := by
    show (me ls st1).bind (fun x st1 => (nilA ls st1).bind fun xs st2 => .ok (x :: xs) st2) = _
    rw [h2]; rfl
  generalize hd : rd st' d1 = e1 at hg
  generalize hy : rd st' d2 = e2 at hg
  cases e1 with
  | list ds =>
    have hg' : (if okD 40 e2 = true ∧ ds.all (okD 40) = true then some (PyData.int (ds.countP fun y => PyData.eqv y e2 : Nat)) else none) = some d := hg
    split at hg'
    · rename_i hc
      cases hg'
      refine .inl ⟨F, ρ, ls, st, d1, st1, S, L, h1, fun F1 ρ1 H1 x e1 S1 r1 => ⟨?_, F1, ρ1, ls, st1, [d2], st', S1, L.ext e1, hA, fun F2 ρ2 H2 vs e2' S2 r2 => ?_⟩⟩
      · cases r1 with
        | lst s t => exact .inl ⟨rfl, _, sqL_mono S1.sub s⟩
        | mrf e =>
          obtain ⟨xs, hx⟩ := S1.at_ _ _ e
          exact .inl ⟨rfl, xs, .inl (.inl hx)⟩
        | _ => cases hd
      · cases r2 with
        | cons a b =>
          cases b
          refine ⟨F2, ρ2, st', d1, d2, ds, _, rfl, S2, r1.ext e2', a, hd, by rw [hy]; exact hc.1, hc.2, ?_⟩
          rw [hy]
          exact q F2 ρ2 H2 _ (e1.trans e2') S2 (.int _)
    · cases hg'
  | str x =>
    cases e2 with
    | str y =>
      cases hg
      refine .inr ⟨F, ρ, ls, st, d1, st1, S, L, h1, fun F1 ρ1 H1 v e1 S1 r1 => ?_⟩
      have hx : d1 = .str x := by
        cases r1 with
        | mrf e =>
          exfalso
          rename_i a k
          have hd' : (match st'[a]? with | some (some (.list xs)) => .list xs | _ => mref a) = PyData.str x := hd
          split at hd' <;> cases hd'
        | str z => exact hd
        | _ => cases hd
      subst hx
      cases r1
      refine ⟨rfl, F1, ρ1, ls, st1, [d2], st', S1, L.ext e1, hA, fun F2 ρ2 H2 vs e2 S2 r2 => ?_⟩
      cases r2 with
      | cons a b =>
        cases b
        have w := view S2 a
        rw [hy] at w
        cases w
        exact ⟨x, y, rfl, rfl, q F2 ρ2 H2 _ (e1.trans e2) S2 (.int _)⟩
    | _ => cases hg
  | _ => cases hg
end
end MP

set_option Elab.async false
set_option linter.all false
set_option maxRecDepth 100000
set_option maxHeartbeats 4000000
/-! MpSort: set() of many tuples, few of them unlike; sorted(set(..)). Own work. -/
namespace MP
open PySem PySem.Spec PyProof.Rows L2
theorem nodup_le {α : Type} [DecidableEq α] : ∀ (l M : List α), l.Nodup → (∀ x ∈ l, x ∈ M) → l.length ≤ M.length
  | [], _, _, _ => Nat.zero_le _
  | x :: l, M, h, s => by
    obtain ⟨h1, h2⟩ := List.nodup_cons.mp h
    have hx := s x List.mem_cons_self
    have ih := nodup_le l (M.erase x) h2 fun y hy => (List.mem_erase_of_ne (fun e => h1 (by rw [← e]; exact hy))).mpr (s y (List.mem_cons_of_mem _ hy))
    have e := List.length_erase_of_mem hx
    have p : 0 < M.length := List.length_pos_of_mem hx
    rw [List.length_cons]; omega
/-- ks holds at most 62 keys -/
def Few (ks : List (Addr × List Int)) : Prop := ∃ M : List (List Int), M.length ≤ 62 ∧ ∀ p ∈ ks, p.2 ∈ M
theorem Few.cap {ks : List (Addr × List Int)} (f : Few ks) {i : Nat} {L : List (Addr × List Int)} (g : Got ks i L) (nd : (L.map (·.2)).Nodup) : L.length ≤ 62 := by
  obtain ⟨M, h1, h2⟩ := f
  have := nodup_le (L.map (·.2)) M nd fun k hk => by
    obtain ⟨p, hp, rfl⟩ := List.mem_map.mp hk
    exact h2 p (List.mem_of_mem_take (g.sub p hp))
  rw [List.length_map] at this; omega
section
variable {P : Program} {w : World} {A : Around} {E : Value → Shared → Prop} {s : Shared}
/-- the state between two laps: what was at first is kept, the set holds what it has got -/
structure LapS (P : Program) (w : World) (first : Heap) (S : Addr) (ks : List (Addr × List Int)) (i : Nat) (s : Shared) : Prop where
  old : ∀ b o, first.get? b = some o → s.heap.get? b = some o
  set : ∃ L es ep t, SetTR P w s.heap S L es ep t ∧ Got ks i L
theorem LapS.moved {first : Heap} {S : Addr} {ks : List (Addr × List Int)} {i : Nat} {s s' : Shared} {wr : List Addr} {G : Array GenState → Array GenState → Prop} (l : LapS P w first S ks i s) (m : Moved wr G s s') (new : ∀ b ∈ wr, first.get? b = none) (nS : S ∉ wr) (tup : ∀ p ∈ ks, IsT P w first p.2 p.1) : LapS P w first S ks i s' := by
  obtain ⟨L, es, ep, t, hS, g⟩ := l.set
  have old : ∀ b o, first.get? b = some o → s'.heap.get? b = some o := fun b o e => m.heap b o (fun z => by have q := new b z; rw [e] at q; cases q) (l.old b o e)
  exact ⟨old, L, es, ep, t, hS.keep (fun o e => m.heap S o nS e) fun p hp => isT_keep (tup p (List.mem_of_mem_take (g.sub p hp))) old, g⟩
theorem laps {I S : Addr} {fp wr : List Addr} {G : Array GenState → Array GenState → Prop} {n : Nat} {Pv : Nat → Value → Prop} {St : Nat → Shared → Prop} {R : Result → Shared → Prop} {ks : List (Addr × List Int)} {first : Heap}
    (W : WalksS P w A.in1 I fp wr G n Pv St) (outS : S ∉ fp) (few : Few ks) (yields : ∀ i v, Pv i v → ∃ p, ks[i]? = some p ∧ v = .ref p.1) (tup : ∀ p ∈ ks, IsT P w first p.2 p.1) (newS : first.get? S = none) (new : ∀ b ∈ wr, first.get? b = none) (room : A.in1.units < cLine) :
    ∀ (k : Nat) (i : Nat) (s : Shared), i + k = n → St i s → LapS P w first S ks i s → (∀ z : Shared, Moved (S :: wr) G s z → LapS P w first S ks n z → R (.ok (.ret .none)) z) → codeAny (model P w) A (.builtin "set.update.loop" ⟨[.ref S, .ref I], []⟩) R s := by
  have nS : S ∉ wr := fun h => outS (W.sub S h)
  have wider : ∀ b ∈ wr, b ∈ S :: wr := fun b h => List.mem_cons_of_mem S h
  intro k; induction k with
  | zero =>
    intro i s e st lap fin
    have ei : i = n := by omega
    refine codeAny_builtin F.entry_set_update_loop ?_; rw [Around.under_plainId F.plain_set_update_loop _]; show wpAny _ A.in1 (pyNext (.ref I) >>= _) _ _ s; refine wpAny_bind (W.done s _ _ (ei ▸ st) fun z m => ?_); exact wpAny_pure (fin z (m.mono wider) (ei ▸ lap.moved m new nS tup))
  | succ k more =>
    intro i s e st lap fin
    refine codeAny_builtin F.entry_set_update_loop ?_; rw [Around.under_plainId F.plain_set_update_loop _]; show wpAny _ A.in1 (pyNext (.ref I) >>= _) _ _ s; refine wpAny_bind (W.item i s _ _ (by omega) st fun v z yv st1 m => ?_)
    obtain ⟨p, hp, ev⟩ := yields i v yv
    have lap1 := lap.moved m new nS tup
    obtain ⟨L, es, ep, t, hS, g⟩ := lap1.set
    have isx : IsT P w z.heap p.2 p.1 := isT_keep (tup p (List.mem_of_getElem? hp)) lap1.old
    have cap := few.cap g hS.nd
    subst ev
    show wpAny _ A.in1 (holding [Value.ref p.1] (setAdd S (.ref p.1)) >>= _) _ _ z
    refine wpAny_bind (wpAny_holding ?_); unfold setAdd; refine wpAny_holding (wpAny_bind (wpAny_pyHash_tuple room isx ?_)); refine add_at (s := { z with toks := z.toks + (p.2.length + 1) }) hS isx room (by omega) fun b h' L' es' ep' t' but hS2 c1 c2 => ?_
    have g2 : Got ks (i + 1) L' := by
      by_cases c : p.2 ∈ L.map (·.2)
      · exact (c1 c) ▸ g.same hp c
      · exact g.more hp (c2 c)
    have kept : ∀ c o, first.get? c = some o → h'.get? c = some o := fun c o q => (but.2 c (fun y => by rw [y, newS] at q; cases q)).trans (lap1.old c o q)
    have st2 := W.frame (i + 1) z h' (z.toks + (p.2.length + 1)) st1 (Nat.le_add_right _ _) fun c hc o q => by rw [but.2 c (fun y => outS (by rw [← y]; exact hc))]; exact q
    refine wpAny_pure ⟨plainId_quiet F.plain_set_update_loop _, more (i + 1) _ (by omega) st2 ⟨kept, L', es', ep', t', hS2, g2⟩ fun y m2 lap2 => fin y (Moved.trans W.gtrans ((m.mono wider).then_heap (Nat.le_add_right _ _) fun c o hc q => ?_) m2) lap2⟩
    rw [but.2 c (fun y => hc (by rw [y]; exact List.mem_cons_self))]; exact q
abbrev noneYet (w : World) : Obj := { cls := .type "set", dict := none, data := .set #[] 0 (.fresh 0 0 (!w.params.followText "set-order")) }
theorem call_set_few {l : Addr} {items : Array Value} {ks : List (Addr × List Int)} {Q : Value → Shared → Prop} (calm : A.handled = none) (isl : s.heap.IsList l items) (are : items.toList = ks.map fun p => Value.ref p.1) (tup : ∀ p ∈ ks, IsT P w s.heap p.2 p.1) (few : Few ks) (room : A.units + 3 < cLine)
    (fin : ∀ (h' : Heap) (tk : Nat) L es ep t, SetTR P w h' s.heap.objs.size L es ep t → Got ks ks.length L → (∀ b o, s.heap.get? b = some o → h'.get? b = some o) → Q (.ref s.heap.objs.size) { s with heap := h', toks := tk }) : wpAny (model P w) A (call (.type "set") [.ref l]) Q E s := by
  have many : items.size = ks.length := by have q := congrArg List.length are; rw [Array.length_toList, List.length_map] at q; exact q
  obtain ⟨c, tl, hmro⟩ := F.called_set.mro; have hmade := F.called_set.made; have hsub := F.called_set.sub
  refine wpAny_call (codeAny_of_tree ?_); show wpAny _ _ (callAny (.type "set") _) _ _ _
  refine wpAny_pure ⟨Code.quiet_builtin _ (by decide +kernel), codeAny_builtin F.entry_type_call ?_⟩; rw [Around.under_plain (weight_type_call_type "set" [.ref l] []) rfl]
  have h1 := F.called_set.notType; have h2 := F.called_set.canCreate; have hct := F.typeCall_set_1 (.ref l)
  repeat (any_goals (first | assumption | wp_step))
  have lt : l < s.heap.objs.size := by obtain ⟨o, ho, _⟩ := isl; exact Heap.lt_size ho
  have gone : ∀ b, s.heap.objs.size ≤ b → s.heap.get? b = none := fun b hb => by
    cases q : s.heap.get? b with
    | none => rfl
    | some o => exact absurd (Nat.lt_of_lt_of_le (Heap.lt_size q) hb) (Nat.lt_irrefl _)
  refine codeAny_mono (code_set_led1 (.ref l) (E := E) (Q₁ := fun obj z => obj = .ref s.heap.objs.size ∧ z = { s with heap := s.heap.push (noneYet w) }) ⟨rfl, rfl⟩) fun r z hr => ?_
  match r, hr with
  | .error e, hr => exact hr
  | .ok .next, hr => exact hr.elim
  | .ok .brk, hr => exact hr.elim
  | .ok .cont, hr => exact hr.elim
  | .ok (.ret obj), ⟨eo, ez⟩ =>
    subst eo ez
    have hS : (s.heap.push (noneYet w)).get? s.heap.objs.size = some (noneYet w) := Heap.get?_push_size _ rfl
    have hT : Shared.TypeIs { s with heap := s.heap.push (noneYet w) } (.ref s.heap.objs.size) "set" := ⟨_, hS, rfl⟩
    have hli := F.called_set.init.lookup; have hbi := F.called_set.init.bind (.ref s.heap.objs.size)
    repeat (any_goals (first | assumption | wp_step))
    refine codeAny_mono (codeAny_call_builtin (R := wants (fun r y => r = .none ∧ ∃ h' tk, y = { s with heap := h', toks := tk } ∧ LapS P w s.heap s.heap.objs.size ks ks.length y) E) F.called_set.init.plain F.entry_set_init (check_set_init_1 hT ?_)) fun r2 y hr2 => ?_
    · obtain ⟨⟨ocls, odict, odata, oslots⟩, hol, hcl, nl, hdl⟩ := isl
      simp only at hcl hdl; subst hcl hdl
      have hol' : (s.heap.push (noneYet w)).get? l = some { cls := .type "list", dict := odict, data := .seq items nl, slots := oslots } := Heap.get?_push_of_some _ hol
      have hsls := F.sub_list_set; have hslf := F.sub_list_frozenset; have hne : (Value.type "list" == Value.type "dict") = false := by decide
      have hl1 : (s.heap.push (noneYet w)).IsList l items := ⟨_, hol', rfl, nl, rfl⟩
      unfold Builtin.«set.__init__» noKeywords Builtin.Frozenset.updateFrom; generalize hPI : pyIter = PI
      wp_walk
      subst hPI; refine wpAny_pyIter_list hl1 ?_; refine wpAny_bind (wpAny_runValue ?_)
      have hh3 : A.in1.in1.in1.handled = none := by simp [calm]
      have sz : (s.heap.push (noneYet w)).objs.size = s.heap.objs.size + 1 := Heap.size_push ..
      have nI : l ≠ (s.heap.push (noneYet w)).objs.size := by rw [sz]; exact Nat.ne_of_lt (Nat.lt_succ_of_lt lt)
      have outS : s.heap.objs.size ∉ [(s.heap.push (noneYet w)).objs.size, l] := by
        rw [sz]; simp only [List.mem_cons, List.not_mem_nil, or_false, not_or]; exact And.intro (Nat.ne_of_lt (Nat.lt_succ_self _)) (Nat.ne_of_gt lt)
      have yields : ∀ (i : Nat) (v : Value), items[i]? = some v → ∃ p, ks[i]? = some p ∧ v = .ref p.1 := fun i v hv => by
        have q : items.toList[i]? = some v := by rw [Array.getElem?_toList]; exact hv
        rw [are, List.getElem?_map] at q
        cases hq : ks[i]? with
        | none => rw [hq] at q; cases q
        | some p => rw [hq] at q; exact ⟨p, rfl, (Option.some.inj q).symm⟩
      refine laps ((Walks.list hh3 _ l nI items).toS) outS few yields tup (gone _ (Nat.le_refl _)) (fun b hb => gone b (by rw [List.mem_singleton.mp hb, sz]; omega)) room items.size 0 _ (Nat.zero_add _) ⟨⟨_, Heap.get?_push_size _ rfl, rfl, rfl⟩, hl1.push _⟩ ⟨fun b o e => Heap.get?_push_of_some _ (Heap.get?_push_of_some _ e), [], #[], 0, _, setTR_fresh (Heap.get?_push_of_some _ hS), Got.zero ks⟩ ?_
      rintro ⟨h', g2, d', tk', os'⟩ m lap
      have eg : g2 = s.gens := m.gens; have ed : d' = s.drawn := m.drawn; have eo : os' = s.os := m.os
      subst eg ed eo; show wpAny _ _ _ _ _ _; refine wpAny_pure ?_; show wpAny _ _ (ret Value.none) _ _ _
      rw [many] at lap; exact wpAny_pure ⟨rfl, h', tk', rfl, lap⟩
    · match r2, hr2 with
      | .error e, hr2 => exact hr2
      | .ok .next, hr2 => exact hr2.elim
      | .ok .brk, hr2 => exact hr2.elim
      | .ok .cont, hr2 => exact hr2.elim
      | .ok (.ret r), ⟨er, h', tk, ey, lap⟩ =>
        subst er ey
        obtain ⟨L, es, ep, t, hS2, g⟩ := lap.set
        repeat (any_goals (first | assumption | wp_step))
        exact fin _ _ _ _ _ _ hS2 g lap.old
end
/-- a tuple of ints -/
def tupInts : D → Option (List Int)
  | .tuple ds => asInts ds
  | _ => none
def allTups : List D → Option (List (List Int))
  | [] => some []
  | d :: r => (tupInts d).bind fun x => (allTups r).map (x :: ·)
def lexLt : List Int → List Int → Bool
  | [], [] => false
  | [], _ :: _ => true
  | _ :: _, [] => false
  | x :: xs, y :: ys => if x < y then true else if x = y then lexLt xs ys else false
/-- put in its place, once -/
def insU (x : List Int) : List (List Int) → List (List Int)
  | [] => [x]
  | y :: r => if x = y then y :: r else if lexLt x y then x :: y :: r else y :: insU x r
def sortU : List (List Int) → List (List Int)
  | [] => []
  | x :: r => insU x (sortU r)
/-- sorted(set(xs)) of tuples of d ints -/
def gSortSet : D → Option D
  | .list ds => (allTups ds).bind fun l => match l with
    | [] => none
    | x :: r => if x ≠ [] ∧ ((x :: r).all fun y => y.length == x.length && y.all fun z => decide (0 ≤ z) && decide (z < 1000000)) = true ∧ (sortU (x :: r)).length < 63 then some (.list ((sortU (x :: r)).map fun y => (PyData.tuple (y.map PyData.int) : D))) else none
  | _ => none
theorem lex_code {B : Int} : ∀ {x y : List Int}, x.length = y.length → TS.Bd B x → TS.Bd B y → (lexLt x y = true ↔ TS.code B x < TS.code B y)
  | [], [], _, _, _ => by simp [lexLt, TS.code]
  | [], _ :: _, h, _, _ => by cases h
  | _ :: _, [], h, _, _ => by cases h
  | a :: x, b :: y, h, hx, hy => by
    have hl : x.length = y.length := by simpa using h
    unfold lexLt
    rcases Int.lt_trichotomy a b with q | q | q
    · rw [if_pos q]; simp [TS.code_lt hl hx.tail hy.tail q]
    · subst q
      rw [if_neg (Int.lt_irrefl _), if_pos rfl, lex_code hl hx.tail hy.tail, TS.code_same hl]
    · rw [if_neg (by omega), if_neg (by omega)]
      have := TS.code_lt hl.symm hy.tail hx.tail q
      constructor
      · intro z; cases z
      · intro z; omega
theorem lex_total : ∀ {x y : List Int}, x.length = y.length → x ≠ y → lexLt x y = false → lexLt y x = true
  | [], [], _, h, _ => absurd rfl h
  | [], _ :: _, h, _, _ => by cases h
  | _ :: _, [], h, _, _ => by cases h
  | a :: x, b :: y, h, hne, hf => by
    have hl : x.length = y.length := by simpa using h
    unfold lexLt at hf ⊢
    rcases Int.lt_trichotomy a b with q | q | q
    · rw [if_pos q] at hf; cases hf
    · subst q
      rw [if_neg (Int.lt_irrefl _), if_pos rfl] at hf
      rw [if_neg (Int.lt_irrefl _), if_pos rfl]
      exact lex_total hl (fun z => hne (by rw [z])) hf
    · rw [if_pos q]
theorem mem_insU {x y : List Int} : ∀ l : List (List Int), y ∈ insU x l ↔ y = x ∨ y ∈ l
  | [] => by simp [insU]
  | z :: l => by
    unfold insU
    by_cases h1 : x = z
    · subst h1
      rw [if_pos rfl]; simp
    · rw [if_neg h1]
      split
      · simp
      · rw [List.mem_cons, mem_insU l, List.mem_cons]
        constructor
        · rintro (h | h | h)
          · exact .inr (.inl h)
          · exact .inl h
          · exact .inr (.inr h)
        · rintro (h | h | h)
          · exact .inr (.inl h)
          · exact .inl h
          · exact .inr (.inr h)
theorem mem_sortU {y : List Int} : ∀ l : List (List Int), y ∈ sortU l ↔ y ∈ l
  | [] => by simp [sortU]
  | x :: l => by rw [sortU, mem_insU, mem_sortU l, List.mem_cons]
def KeyOk (d : Nat) (B : Int) (x : List Int) : Prop := x.length = d ∧ TS.Bd B x
theorem insU_sorted {d : Nat} {B : Int} {x : List Int} (hx : KeyOk d B x) : ∀ l : List (List Int), (∀ y ∈ l, KeyOk d B y) → l.Pairwise (fun y z => TS.code B y < TS.code B z) → (insU x l).Pairwise fun y z => TS.code B y < TS.code B z
  | [], _, _ => by simp [insU]
  | z :: l, hl, hp => by
    obtain ⟨p1, p2⟩ := List.pairwise_cons.mp hp
    have hz := hl z List.mem_cons_self
    unfold insU
    by_cases h1 : x = z
    · rw [if_pos h1]; exact hp
    · rw [if_neg h1]
      by_cases h2 : lexLt x z = true
      · rw [if_pos h2]
        have c := (lex_code (hx.1.trans hz.1.symm) hx.2 hz.2).mp h2
        refine List.pairwise_cons.mpr ⟨fun y hy => ?_, hp⟩
        rcases List.mem_cons.mp hy with rfl | hy
        · exact c
        · exact Int.lt_trans c (p1 y hy)
      · rw [if_neg h2]
        have c := (lex_code (hz.1.trans hx.1.symm) hz.2 hx.2).mp (lex_total (hx.1.trans hz.1.symm) h1 (by simpa using h2))
        refine List.pairwise_cons.mpr ⟨fun y hy => ?_, insU_sorted hx l (fun y hy => hl y (List.mem_cons_of_mem _ hy)) p2⟩
        rcases (mem_insU l).mp hy with rfl | hy
        · exact c
        · exact p1 y hy
theorem sortU_sorted {d : Nat} {B : Int} : ∀ l : List (List Int), (∀ y ∈ l, KeyOk d B y) → (sortU l).Pairwise fun y z => TS.code B y < TS.code B z
  | [], _ => by simp [sortU]
  | x :: l, h => insU_sorted (h x List.mem_cons_self) _ (fun y hy => h y (List.mem_cons_of_mem _ ((mem_sortU l).mp hy))) (sortU_sorted l fun y hy => h y (List.mem_cons_of_mem _ hy))
theorem sorted_one {B : Int} : ∀ (l m : List (List Int)), l.Pairwise (fun y z => TS.code B y < TS.code B z) → m.Pairwise (fun y z => TS.code B y < TS.code B z) → (∀ x, x ∈ l ↔ x ∈ m) → l = m
  | [], [], _, _, _ => rfl
  | [], y :: m, _, _, h => absurd ((h y).mpr List.mem_cons_self) List.not_mem_nil
  | x :: l, [], _, _, h => absurd ((h x).mp List.mem_cons_self) List.not_mem_nil
  | x :: l, y :: m, hl, hm, h => by
    obtain ⟨a1, a2⟩ := List.pairwise_cons.mp hl
    obtain ⟨b1, b2⟩ := List.pairwise_cons.mp hm
    have e : x = y := by
      rcases List.mem_cons.mp ((h x).mp List.mem_cons_self) with q | q
      · exact q
      · rcases List.mem_cons.mp ((h y).mpr List.mem_cons_self) with r | r
        · exact r.symm
        · have := a1 y r
          have := b1 x q
          omega
    subst e
    rw [sorted_one l m a2 b2 fun z => ?_]
    constructor
    · intro hz
      rcases List.mem_cons.mp ((h z).mp (List.mem_cons_of_mem _ hz)) with q | q
      · subst q; exact absurd (a1 z hz) (Int.lt_irrefl _)
      · exact q
    · intro hz
      rcases List.mem_cons.mp ((h z).mpr (List.mem_cons_of_mem _ hz)) with q | q
      · subst q; exact absurd (b1 z hz) (Int.lt_irrefl _)
      · exact q
theorem code_inj {B : Int} {x y : List Int} {d : Nat} (hx : KeyOk d B x) (hy : KeyOk d B y) (h : TS.code B x = TS.code B y) : x = y := by
  by_cases q : x = y
  · exact q
  · exfalso
    have l := hx.1.trans hy.1.symm
    cases c : lexLt x y with
    | true => have := (lex_code l hx.2 hy.2).mp c; omega
    | false => have := (lex_code l.symm hy.2 hx.2).mp (lex_total l q c); omega
def rSetFew (K : Frag) (P : Program) (w : World) : List V → Hp → VK → Prop := fun xs H Q => ∃ (l : Addr) (ks : List (Addr × List Int)), xs = [V.ref l] ∧ SqL K H l (ks.map fun p => V.ref p.1) ∧ (∀ p ∈ ks, SqT K H p.1 (p.2.map V.int)) ∧ Few ks ∧
  ∀ a L, H a = none → (∀ p ∈ L, p ∈ ks) → (∀ p ∈ ks, p.2 ∈ L.map (·.2)) → Q (.ref a) (upd H a (SetTO P w a L))
section
variable {X : Cx} {a e : Expr} {ma me : ME} {p p2 pos q : Pos}
theorem cr_setFew (hc : X.calm = true) (hu : X.A.units + 64 < cLine) : CallR X (.type "set") (rSetFew X.K X.prog X.w) := by
  intro pins s σ H xs us Q I r ⟨l, ks, exs, hl, hk, few, fin⟩
  subst exs
  rw [Vals.ref1 r]
  obtain ⟨its, rv, pl, _⟩ := I.list hl
  have room : X.A.units + 3 < cLine := Nat.lt_of_le_of_lt (by omega) hu
  refine call_set_few (ks := ks) (I.ok.hd hc) pl.isList (by simpa using refs_of_vals rv) (fun p hp => I.isT (hk p hp)) few room fun h' tk L es ep t R g k => ⟨.ref s.heap.objs.size, upd H s.heap.objs.size (SetTO X.prog X.w s.heap.objs.size L), I.laid (t' := tk) k (Nat.le_refl _) (setTO_new R.t0), rfl, fin _ L (I.hok.fresh (Nat.le_refl _)) (fun p hp => List.mem_of_mem_take (g.sub p hp)) fun p hp => g.all p (by rw [List.take_length]; exact hp)⟩
/-- what a list of tuples of ints is made of -/
theorem keys_of {K : Frag} {F : Hp} {ρ : List Addr} : ∀ {xs : List V} {ds : List D} {l : List (List Int)}, RVs K F ρ xs ds → allTups ds = some l → ∃ ks : List (Addr × List Int), xs = (ks.map fun p => V.ref p.1) ∧ ks.map (·.2) = l ∧ ∀ p ∈ ks, SqT K F p.1 (p.2.map V.int)
  | _, _, l, .nil, h => by cases h; exact ⟨[], rfl, rfl, fun _ h => nomatch h⟩
  | _, _, l, .cons (d := d) r t, h => by
    rw [allTups] at h
    cases hd : tupInts d with
    | none => rw [hd] at h; cases h
    | some x =>
      rw [hd, Option.bind_some] at h
      cases hr : allTups _ with
      | none => rw [hr] at h; cases h
      | some l' =>
        rw [hr] at h
        cases h
        obtain ⟨ks, e1, e2, e3⟩ := keys_of t hr
        cases r with
        | tup s t1 =>
          have ei := asInts_eq (show asInts _ = some x from hd)
          subst ei
          have ev := t1.ints
          subst ev
          refine ⟨(_, x) :: ks, by rw [List.map_cons, e1], by rw [List.map_cons, e2], fun p hp => ?_⟩
          rcases List.mem_cons.mp hp with rfl | hp
          · exact s
          · exact e3 p hp
        | _ => cases hd
theorem ok_sortSet (hc : X.calm = true) (hu : X.A.units + 100 < cLine) (hg : Gl X "sorted") (hm : X.mg "sorted" = none) (hg2 : Gl X "set") (hm2 : X.mg "set" = none) (ha : PE X a (tE X.K ma)) (hs : notStar a = true := by rfl) :
    PE X (.Call (.Name "sorted" p) [.Call (.Name "set" p2) [a] [] q] [] pos) (tE X.K (una gSortSet ma)) := by
  have inner := L2.pe_callTy (pos := q) (p := p2) (cr_setFew hc (by omega)) hg2 hm2 (by decide +kernel) (ok_consA ha ok_nilA (star_cons hs)) (by decide +kernel) (by decide +kernel) (star_cons hs) (star_any (by rfl))
  refine (L2.pe_callB (pos := pos) (p := p) (cr_sortedT hc) hg hm (by decide +kernel) (L2.pa_cons inner L2.pa_nil rfl) (by decide +kernel) (by decide +kernel) (star_cons rfl) (star_any (by rfl))).imp fun σ H Q ⟨F, ρ, ls, st, d, st', S, L, hm', fin⟩ => ?_
  obtain ⟨d0, st1, h1, hm'⟩ := bind_ok hm'
  obtain ⟨hgs, rfl⟩ := ofOpt_ok hm'
  have one : consA ma nilA ls st = .ok [d0] st' := by unfold consA; rw [h1]; rfl
  refine ⟨F, ρ, ls, st, [d0], st', S, L, one, fun F1 ρ1 H1 vs e1 S1 r1 => ?_⟩
  obtain ⟨v, rfl⟩ : ∃ v, vs = [v] := by cases r1 with | cons _ t => cases t; exact ⟨_, rfl⟩
  have r1 : RV X.K F1 ρ1 v d0 := by cases r1 with | cons r _ => exact r
  have vw := view S1 r1
  generalize rd st' d0 = d1 at vw hgs
  cases d1 with
  | list ds =>
    obtain ⟨l, xs, rfl, hl, rs⟩ := vw
    have hgs' : ((allTups ds).bind fun l => match l with
      | [] => none
      | x :: r => if x ≠ [] ∧ ((x :: r).all fun y => y.length == x.length && y.all fun z => decide (0 ≤ z) && decide (z < 1000000)) = true ∧ (sortU (x :: r)).length < 63 then some (.list ((sortU (x :: r)).map fun y => (PyData.tuple (y.map PyData.int) : D))) else none) = some d := hgs
    cases hk : allTups ds with
    | none => rw [hk] at hgs'; cases hgs'
    | some keys =>
      rw [hk, Option.bind_some] at hgs'
      cases keys with
      | nil => cases hgs'
      | cons x r =>
        have hgs2 : (if x ≠ [] ∧ ((x :: r).all fun y => y.length == x.length && y.all fun z => decide (0 ≤ z) && decide (z < 1000000)) = true ∧ (sortU (x :: r)).length < 63 then some (.list ((sortU (x :: r)).map fun y => (PyData.tuple (y.map PyData.int) : D))) else none) = some d := hgs'
        split at hgs2
        · rename_i c
          obtain ⟨c1, c2, c3⟩ := c
          cases hgs2
          obtain ⟨ks, e1', e2', e3'⟩ := keys_of rs hk
          subst e1'
          have ok : ∀ y ∈ x :: r, KeyOk x.length 1000000 y := fun y hy => by
            have := List.all_eq_true.mp c2 y hy
            simp only [Bool.and_eq_true, beq_iff_eq, List.all_eq_true, decide_eq_true_eq] at this
            exact ⟨this.1, fun m hm => this.2 m hm⟩
          have kin : ∀ p ∈ ks, p.2 ∈ x :: r := fun p hp => by rw [← e2']; exact List.mem_map_of_mem hp
          refine ⟨l, ks, rfl, hl, fun p hp => sqT_mono S1.sub (e3' p hp), ⟨sortU (x :: r), by omega, fun p hp => (mem_sortU _).mpr (kin p hp)⟩, fun b M hb sub all => ?_⟩
          have S2 := sto_new S1 hb (SetTO X.prog X.w b M)
          have X2 := ext_new S1 hb (SetTO X.prog X.w b M)
          have tupM : ∀ p ∈ M, SqT X.K (upd F1 b (SetTO X.prog X.w b M)) p.1 (p.2.map V.int) := fun p hp => sqT_mono X2.frz (e3' p (sub p hp))
          refine ⟨b, M, x.length, 1000000, rfl, upd_same, fun p hp => sqT_mono S2.sub (tupM p hp), Nat.pos_of_ne_zero fun z => c1 (List.length_eq_zero_iff.mp z), fun p hp => ok _ (kin p (sub p hp)), fun L' p' pm nd' few pw hp' => ?_⟩
          have keyL : L'.map (·.2) = sortU (x :: r) := by
            refine sorted_one (B := 1000000) _ _ ?_ (sortU_sorted (d := x.length) _ ok) fun y => ?_
            · have key : ∀ p ∈ L', KeyOk x.length 1000000 p.2 := fun p hp => ok _ (kin p (sub p (pm.mem_iff.mp hp)))
              have pn : L'.Pairwise fun p q => p.2 ≠ q.2 := List.pairwise_map.mp nd'
              refine List.pairwise_map.mpr ((pw.and pn).imp_of_mem fun {p q} hp hq h => ?_)
              have ne : TS.code 1000000 p.2 ≠ TS.code 1000000 q.2 := fun z => h.2 (code_inj (key p hp) (key q hq) z)
              have := h.1
              omega
            · rw [mem_sortU]
              constructor
              · intro hy
                obtain ⟨p, hp, rfl⟩ := List.mem_map.mp hy
                exact kin p (sub p (pm.mem_iff.mp hp))
              · intro hy
                rw [← e2'] at hy
                obtain ⟨p, hp, rfl⟩ := List.mem_map.mp hy
                obtain ⟨p2, hp2, e⟩ := List.mem_map.mp (all p hp)
                rw [← e]
                exact List.mem_map_of_mem (pm.mem_iff.mpr hp2)
          have rvs : ∀ N : List (Addr × List Int), (∀ p ∈ N, p ∈ M) → RVs X.K (upd F1 b (SetTO X.prog X.w b M)) ρ1 (N.map fun p => V.ref p.1) (N.map fun p => (PyData.tuple (p.2.map PyData.int) : D)) := fun N => by
            induction N with
            | nil => intro _; exact .nil
            | cons p N ih => intro h; exact .cons (.tup (tupM p (h p List.mem_cons_self)) (RVs.map (f := V.int) (g := PyData.int) (fun i => .int i) p.2)) (ih fun z hz => h z (List.mem_cons_of_mem _ hz))
          have rl := rvs L' fun p hp => pm.mem_iff.mp hp
          have eD : (L'.map fun p => (PyData.tuple (p.2.map PyData.int) : D)) = (sortU (x :: r)).map fun y => (PyData.tuple (y.map PyData.int) : D) := by rw [← keyL, List.map_map]; rfl
          rw [eD] at rl
          exact fin _ _ _ _ (e1.trans (X2.trans (ext_new S2 hp' _))) (sto_new S2 hp' _) (new_lst S2 hp' rl)
        · cases hgs2
  | _ => cases hgs
end
end MP

set_option Elab.async false
set_option linter.all false
set_option maxRecDepth 100000
set_option maxHeartbeats 4000000
/-! MpSet: comprehensions given to names, stores in parallel. Own work. -/
namespace MP
open PySem PySem.Spec PyProof.Rows L2
section
variable {K : Frag} {F F' H H' : Hp} {ρ ρ' : List Addr} {st : Store} {p : Addr} {xs : List V} {ds : List D}
/-- a list of our own is frozen -/
theorem own_frz {Q : Prop} (e1 : Ext F ρ H F' ρ' H') (S1 : Sto K F' ρ' st H') (hp : H' p = some (.lst xs)) (pρ : p ∉ ρ') (pF : F' p = none) (pH : H p = none) (r : RVs K F' ρ' xs ds)
    (q : Ext F ρ H (upd F' p (.lst xs)) ρ' H' → Sto K (upd F' p (.lst xs)) ρ' st H' → RV K (upd F' p (.lst xs)) ρ' (.ref p) (.list ds) → Q) : Q := by
  refine q ⟨fun a o h => ?_, e1.adr, e1.new, e1.keep, e1.none, fun a o h => ?_⟩ ⟨fun a o h => ?_, S1.nd, S1.len, S1.at_, fun k a d k1 k2 => ?_⟩ (.lst (.inl (.inl upd_same)) (r.mono (fun a o h => ?_) fun _ _ h => h))
  · rw [upd_ne (fun z => by subst z; rw [e1.frz a o h] at pF; cases pF)]; exact e1.frz a o h
  · by_cases z : a = p
    · subst z; exact .inr (.inl pH)
    · rw [upd_ne z] at h; exact e1.fnw a o h
  · by_cases z : a = p
    · subst z; rw [upd_same] at h; cases h; exact hp
    · rw [upd_ne z] at h; exact S1.sub a o h
  · obtain ⟨z1, zs, es, rfl, z2, z3, z4⟩ := S1.ok k a d k1 k2
    have zz : a ≠ p := fun z => pρ (by rw [← z]; exact List.mem_of_getElem? k1)
    refine ⟨by rw [upd_ne zz]; exact z1, zs, es, rfl, z2, z3.mono (fun b u h => ?_) (fun _ _ h => h), z4⟩
    rw [upd_ne (fun z => by subst z; rw [h] at pF; cases pF)]; exact h
  · rw [upd_ne (fun z => by subst z; rw [h] at pF; cases pF)]; exact h
/-- .. or stays a list that may change -/
theorem own_mut {Q : Prop} (e1 : Ext F ρ H F' ρ' H') (S1 : Sto K F' ρ' st H') (hp : H' p = some (.lst xs)) (pρ : p ∉ ρ') (pF : F' p = none) (pH : H p = none) (r : RVs K F' ρ' xs ds) (hd : ds.all (okD 40) = true)
    (q : Ext F ρ H F' (ρ' ++ [p]) H' → Sto K F' (ρ' ++ [p]) (st ++ [some (.list ds)]) H' → RV K F' (ρ' ++ [p]) (.ref p) (mref st.length) → Q) : Q := by
  have hadr : ∀ (j : Nat) b, ρ'[j]? = some b → (ρ' ++ [p])[j]? = some b := fun j b hb => by rw [List.getElem?_append_left (List.getElem?_eq_some_iff.mp hb).1]; exact hb
  refine q ⟨e1.frz, fun k a h => hadr k a (e1.adr k a h), fun a h => ?_, e1.keep, e1.none, e1.fnw⟩ ⟨S1.sub, ?_, by simp [S1.len], fun j b hb => ?_, fun j b d hb hd' => ?_⟩ (.mrf (by rw [S1.len]; simp))
  · rcases List.mem_append.mp h with h | h
    · exact e1.new a h
    · have : a = p := by simpa using h
      subst this; exact .inr pH
  · rw [List.nodup_append]
    refine ⟨S1.nd, by simp, fun b hb c hc z => ?_⟩
    have : c = p := by simpa using hc
    subst this; subst z
    exact pρ hb
  · rcases getElem?_snoc hb with hb | ⟨_, hb⟩
    · exact S1.at_ j b hb
    · subst hb; exact ⟨xs, hp⟩
  · rcases getElem?_snoc hb with hb | ⟨hj, hb⟩
    · have hd2 : st[j]? = some (some d) := by
        rcases getElem?_snoc hd' with h | ⟨hl, _⟩
        · exact h
        · have := (List.getElem?_eq_some_iff.mp hb).1
          rw [hl, S1.len] at this; omega
      obtain ⟨z1, ys, fs, rfl, z2, z3, z4⟩ := S1.ok j b d hb hd2
      exact ⟨z1, ys, fs, rfl, z2, z3.mono (fun _ _ h => h) hadr, z4⟩
    · subst hb
      have hd2 : d = .list ds := by
        rcases getElem?_snoc hd' with h | ⟨_, h⟩
        · have := (List.getElem?_eq_some_iff.mp h).1
          rw [hj, ← S1.len] at this; omega
        · exact (Option.some.inj h).symm
      subst hd2
      exact ⟨pF, xs, ds, rfl, hp, r.mono (fun _ _ h => h) hadr, hd⟩
end
section
variable {X : Cx} {pos spos : Pos} {elt tg iter : Expr} {ifs : List Expr} {scope : Scope} {own : List (Str × Nat)} {g : Tg} {t : MT} {e : ME} {mi : MI}
theorem ok_mlc (hc : X.calm = true) (hN : X.N.Nodup) (hi : PI X tg iter (tI X.K mi)) (ok : BlkOk X.N X.env.scope scope own) (hd : BlkDoes X scope tg ifs elt g t e)
    (hv : ∀ i ∈ tgSlots g, i ∈ own.map (·.2)) (hs : ∀ x, foldedSetIterable iter X.env x = pure x) : PE X (.ListComp elt [⟨tg, iter, ifs, 0⟩] scope pos) (tE X.K (mlc (own.map (·.2)) g mi t e)) :=
  (L2.pe_lc hc hN hi ok hd.hg hd.ht hd.he hs).imp fun σ H Q ⟨F, ρ, ls, st, d, st', S, L, hm, q⟩ => by
    obtain ⟨ds, st1, h1, hm⟩ := bind_ok hm
    obtain ⟨ys, st2, h2, hm⟩ := bind_ok hm
    split at hm
    · rename_i hy
      cases hm
      exact lc_reads hv S L h1 h2 fun F' ρ' H' p xs e1 S1 hp pρ pF pH r => own_mut e1 S1 hp pρ pF pH r hy fun e S r => q _ _ _ _ e S r
    · cases hm
theorem ok_setLc {i : Nat} {y : Str} {py : Pos} (hc : X.calm = true) (hN : X.N.Nodup) (hy : X.N[i]? = some y) (hyl : X.env.scope.names.lookup y = some .local)
    (hsw : swapsWith (.ListComp elt [⟨tg, iter, ifs, 0⟩] scope pos) (some (.Name y py)) spos.line X.env = pure true) (hi : PI X tg iter (tI X.K mi)) (ok : BlkOk X.N X.env.scope scope own) (hd : BlkDoes X scope tg ifs elt g t e)
    (hv : ∀ i ∈ tgSlots g, i ∈ own.map (·.2)) (hs : ∀ x, foldedSetIterable iter X.env x = pure x) : PS X (.Assign [.Name y py] (.ListComp elt [⟨tg, iter, ifs, 0⟩] scope pos) spos) (tS X.K (asg i (lc (own.map (·.2)) g mi t e))) :=
  L2.PS.imp (L2.ps_setLc hc hN hy hyl hsw hi ok hd.hg hd.ht hd.he hs) fun Dn σ H ⟨F, ρ, ls, st, fl, st', S, L, hm, q⟩ => by
    obtain ⟨d, st0, h0, hm⟩ := bind_ok hm
    cases hm
    obtain ⟨ds, st1, h1, hm⟩ := bind_ok h0
    obtain ⟨ys, st2, h2, hm⟩ := bind_ok hm
    cases hm
    exact lc_reads hv S L h1 h2 fun F' ρ' H' p xs e1 S1 hp pρ pF pH r => own_frz e1 S1 hp pρ pF pH r fun e S r => q _ _ _ _ e S ((L.ext e).set r)
theorem ok_setMlc {i : Nat} {y : Str} {py : Pos} (hc : X.calm = true) (hN : X.N.Nodup) (hy : X.N[i]? = some y) (hyl : X.env.scope.names.lookup y = some .local)
    (hsw : swapsWith (.ListComp elt [⟨tg, iter, ifs, 0⟩] scope pos) (some (.Name y py)) spos.line X.env = pure true) (hi : PI X tg iter (tI X.K mi)) (ok : BlkOk X.N X.env.scope scope own) (hd : BlkDoes X scope tg ifs elt g t e)
    (hv : ∀ i ∈ tgSlots g, i ∈ own.map (·.2)) (hs : ∀ x, foldedSetIterable iter X.env x = pure x) : PS X (.Assign [.Name y py] (.ListComp elt [⟨tg, iter, ifs, 0⟩] scope pos) spos) (tS X.K (asg i (mlc (own.map (·.2)) g mi t e))) :=
  L2.PS.imp (L2.ps_setLc hc hN hy hyl hsw hi ok hd.hg hd.ht hd.he hs) fun Dn σ H ⟨F, ρ, ls, st, fl, st', S, L, hm, q⟩ => by
    obtain ⟨d, st0, h0, hm⟩ := bind_ok hm
    cases hm
    obtain ⟨ds, st1, h1, hm⟩ := bind_ok h0
    obtain ⟨ys, st2, h2, hm⟩ := bind_ok hm
    split at hm
    · rename_i hy
      cases hm
      exact lc_reads hv S L h1 h2 fun F' ρ' H' p xs e1 S1 hp pρ pF pH r => own_mut e1 S1 hp pρ pF pH r hy fun e S r => q _ _ _ _ e S ((L.ext e).set r)
    · cases hm
theorem ok_par3 {i j l : Nat} {x y z : Str} {a b c : Expr} {m : MA} {px py pz pt : Pos} {kt k2 pt2} (hc : X.calm = true) (hN : X.N.Nodup) (hi : X.N[i]? = some x) (hj : X.N[j]? = some y) (hl : X.N[l]? = some z) (hij : i ≠ j) (hil : i ≠ l) (hjl : j ≠ l)
    (hx : X.env.scope.names.lookup x = some .local) (hy : X.env.scope.names.lookup y = some .local) (hz : X.env.scope.names.lookup z = some .local) (ha : PA X [a, b, c] (tA X.K m))
    (hw : swappedStores [.Tuple [.Name x px, .Name y py, .Name z pz] kt pt] (.Tuple [a, b, c] k2 pt2) X.env = pure (some [x, y, z]))
    (hs : swapsWithSole [.Tuple [.Name x px, .Name y py, .Name z pz] kt pt] (.Tuple [a, b, c] k2 pt2) pos.line X.env = pure false) :
    PS X (.Assign [.Tuple [.Name x px, .Name y py, .Name z pz] kt pt] (.Tuple [a, b, c] k2 pt2) pos) (tS X.K (par3 i j l m)) :=
  L2.PS.imp (L2.ps_par3 hc hN hi hj hl hij hil hjl hx hy hz ha hw hs) fun Dn σ H ⟨F, ρ, ls, st, fl, st', S, L, hm, q⟩ => by
    obtain ⟨ds, st1, h1, hm⟩ := bind_ok hm
    split at hm
    · cases hm
      refine ⟨F, ρ, ls, st, _, st', S, L, h1, fun F1 ρ1 H1 vs e1 S1 r1 => ?_⟩
      cases r1 with
      | cons r1 r2 =>
        cases r2 with
        | cons r2 r3 =>
          cases r3 with
          | cons r3 r4 =>
            cases r4
            exact ⟨_, _, _, rfl, q F1 ρ1 _ H1 e1 S1 ((((L.ext e1).set r1).set r2).set r3)⟩
    · cases hm
/-! ### which stores are exchanged -/
def isLC : Expr → Bool
  | .ListComp .. | .SetComp .. | .DictComp .. => true
  | _ => false
theorem swaps_no {e : Expr} {t : Option Expr} {l : Nat} {env : Env} (h : isLC e = false) : swapsWith e t l env = pure false := by
  cases e <;> first | rfl | cases h
theorem swaps_cell {e : Expr} {y : Str} {py : Pos} {l : Nat} {env : Env} (h : env.scope.names.lookup y ≠ some .local) : swapsWith e (some (.Name y py)) l env = pure false := by
  have hk : (env.kindOf y == some .local) = false := by
    have : env.kindOf y = env.scope.names.lookup y := rfl
    rw [this]; simpa using h
  cases e <;> first | rfl | (unfold swapsWith; simp only [hk, Bool.and_false, Bool.false_and] <;> rfl) | (unfold swapsWith; simp only [hk, Bool.and_false, Bool.false_and])
def notStarE : Expr → Bool
  | .Starred .. => false
  | _ => true
/-- neither all written constants, nor all reckoned from such -/
def mixed (vs : List Expr) : Bool := vs.all notStarE && !(vs.all (foldedForSure 8)) && !(vs.all (constantsAlone 8))
theorem starsNo {vs : List Expr} (h : vs.all notStarE = true) : (vs.any fun | .Starred .. => true | _ => false) = false := by
  rw [List.any_eq_false]
  rw [List.all_eq_true] at h
  intro x hx
  have := h x hx
  cases x <;> first | (simp; done) | (cases this)
theorem swapped2 {x y : Str} {px py pt pt2 : Pos} {kt k2 : Nat} {a b : Expr} {env : Env} (hk : env.scope.kind = .function) (hx : env.scope.names.lookup x = some .local) (hy : env.scope.names.lookup y = some .local) (hxy : x ≠ y) (hl : (py.line == px.line) = true) (hm : mixed [a, b] = true) :
    swappedStores [.Tuple [.Name x px, .Name y py] kt pt] (.Tuple [a, b] k2 pt2) env = pure (some [x, y]) := by
  have hb : env.blockKind = .function := by unfold Env.blockKind; rw [hk]; rfl
  have kx : env.kindOf x = some .local := hx
  have ky : env.kindOf y = some .local := hy
  unfold mixed at hm
  simp only [Bool.and_eq_true, Bool.not_eq_true'] at hm
  obtain ⟨⟨h1, h2⟩, h3⟩ := hm
  have h4 := starsNo h1
  have hl' : py.line = px.line := by simpa using hl
  have hne : (y == x) = false := by simpa using Ne.symm hxy
  have hne' : (x == y) = false := by simpa using hxy
  unfold swappedStores
  simp only [h2, h3, h4, hb, kx, ky, Expr.pos, hl', List.filterMap_cons, List.filterMap_nil, List.head?_cons, Option.map_some, Option.getD_some, List.length_cons, List.length_nil]
  cases a <;> first | (cases (show false = true by simpa [notStarE] using h1); done) | (cases b <;> first | (cases (show false = true by simpa [notStarE] using h1); done) | (simp [hb, List.eraseDups_cons, hne, hne', kx, ky, hl']; done))
end
end MP

set_option Elab.async false
set_option linter.all false
set_option maxRecDepth 100000
set_option maxHeartbeats 4000000
/-! MpGen: short words for printed walks. Own work. -/
namespace MP
open PySem PySem.Spec PyProof.Rows L2
structure NmOk (x : Str) : Prop where
  dbg : (x == ("__debug__" : Str)) = false
  cd : (x == ("__classdict__" : Str)) = false
  nn : x ≠ "__name__"
def kVis : Option NameKind → Bool
  | some .local => true
  | some .cell => true
  | some .free => true
  | _ => false
def kLoc : Option NameKind → Bool
  | some .local => true
  | some .cell => true
  | _ => false
theorem vis_of {sc : Scope} {x : Str} (h : kVis (sc.names.lookup x) = true) : Vis sc x := by
  unfold Vis
  cases q : sc.names.lookup x with
  | none => rw [q] at h; cases h
  | some k => rw [q] at h; cases k <;> first | (cases h; done) | simp
theorem loc_of {sc : Scope} {x : Str} (h : kLoc (sc.names.lookup x) = true) : L2.Loc sc x := by
  unfold L2.Loc
  cases q : sc.names.lookup x with
  | none => rw [q] at h; cases h
  | some k => rw [q] at h; cases k <;> first | (cases h; done) | simp
theorem lookup_rel {scope sc : Scope} {x : Str} : ∀ l : List (Str × NameKind),
    (l.map fun (n, k) => if (k == .free && sc.kind == .function && sc.names.lookup n == some .cell) then (n, NameKind.cell) else (n, k)).lookup x = (l.lookup x).map fun k => if (k == .free && sc.kind == .function && sc.names.lookup x == some .cell) then NameKind.cell else k
  | [] => rfl
  | (n, k) :: r => by
    have ih := lookup_rel (scope := scope) (sc := sc) (x := x) r
    rw [List.map_cons, List.lookup_cons, List.lookup_cons, ih]
    generalize hc : (k == NameKind.free && sc.kind == ScopeKind.function && sc.names.lookup n == some NameKind.cell) = c
    by_cases e : x = n
    · subst e
      cases c
      · simp
        intro a b d
        rw [a, b, d] at hc
        exact absurd hc (by decide)
      · simp
        intro h
        simp only [Bool.and_eq_true, beq_iff_eq] at hc
        exact absurd hc.2 (h hc.1.1 hc.1.2)
    · have : (x == n) = false := by simpa using e
      cases c <;> simp [this]
theorem relS_lookup {scope sc : Scope} {x : Str} : (relS scope sc).names.lookup x = (scope.names.lookup x).map fun k => if (k == .free && sc.kind == .function && sc.names.lookup x == some .cell) then NameKind.cell else k := lookup_rel (scope := scope) scope.names
theorem rel_vis {scope sc : Scope} {x : Str} (h : kVis (scope.names.lookup x) = true) : kVis ((relS scope sc).names.lookup x) = true := by
  rw [relS_lookup]
  cases q : scope.names.lookup x with
  | none => rw [q] at h; cases h
  | some k => rw [q] at h; cases k <;> first | (cases h; done) | (simp; done) | (simp; rfl) | (simp only [Option.map_some]; split <;> rfl)
theorem rel_loc {scope sc : Scope} {x : Str} (h : kLoc (scope.names.lookup x) = true) : kLoc ((relS scope sc).names.lookup x) = true := by
  rw [relS_lookup]
  cases q : scope.names.lookup x with
  | none => rw [q] at h; cases h
  | some k => rw [q] at h; cases k <;> first | (cases h; done) | (simp; done) | (simp; rfl) | (simp only [Option.map_some]; split <;> rfl)
theorem rel_glob {scope sc : Scope} {x : Str} (h : scope.names.lookup x = some .globalImplicit) : (relS scope sc).names.lookup x = some .globalImplicit := by
  rw [relS_lookup, h]; rfl
section
variable {X : Cx} {N : List Str} {sc scope : Scope} {x : Str} {pos : Pos}
theorem gv (i : Nat) (hN : X.N = N) (hi : N[i]? = some x) (hs : X.env.scope = sc) (h : kVis (sc.names.lookup x) = true) (n : NmOk x) : PE X (.Name x pos) (tE X.K (var i)) :=
  ok_var (hN ▸ hi) (hs ▸ vis_of h) n.dbg n.cd
theorem gvb (i : Nat) (hN : X.N = N) (hi : N[i]? = some x) (hs : X.env.scope = relS scope sc) (h : kVis (scope.names.lookup x) = true) (n : NmOk x) : PE X (.Name x pos) (tE X.K (var i)) :=
  gv i hN hi hs (rel_vis h) n
theorem gl (hs : X.env.scope = sc) (h : sc.names.lookup x = some .globalImplicit) : Gl X x := by
  show X.env.scope.names.lookup x = _
  rw [hs]; exact h
theorem glb (hs : X.env.scope = relS scope sc) (h : scope.names.lookup x = some .globalImplicit) : Gl X x := gl hs (rel_glob h)
/-- a name as a target -/
theorem gt (i : Nat) (hN : X.N = N) (hnd : N.Nodup) (hi : N[i]? = some x) (hs : X.env.scope = sc) (h : kLoc (sc.names.lookup x) = true) (hf : X.fn x = true) : PG X (.Name x pos) (tgTG X.K (.nm i)) :=
  pg_name (hN ▸ hnd) (hN ▸ hi) (hs ▸ loc_of h) (.inl hf)
theorem gtb {s : Shared} {H : Hp} {cl : List (Str × Addr)} {C : Addr} {fp : List Addr} (i : Nat) (hN : X.N = N) (hnd : N.Nodup) (hi : N[i]? = some x) (h : kLoc (scope.names.lookup x) = true) :
    PG (X.blk s H scope (compEnvC scope cl C X.env) fp) (.Name x pos) (tgTG X.K (.nm i)) := by
  refine pg_name (show X.N.Nodup from hN ▸ hnd) (show X.N[i]? = some x from hN ▸ hi) (show L2.Loc (relS scope X.env.scope) x from loc_of (rel_loc h)) ?_
  show (scope.names.lookup x == some .cell) = true ∨ (relS scope X.env.scope).names.lookup x = some .local
  rw [relS_lookup]
  cases q : scope.names.lookup x with
  | none => rw [q] at h; cases h
  | some k => rw [q] at h; cases k <;> first | (cases h; done) | (right; rfl) | (left; rfl)
theorem gt_nil : PGs X [] (tgsTG X.K .nil) := pgs_nil
theorem gt_cons {e : Expr} {es : List Expr} {t : Tg} {u : Tgs} (h1 : PG X e (tgTG X.K t)) (h2 : PGs X es (tgsTG X.K u)) (hn : (match e with | .Starred .. => false | _ => true) = true) : PGs X (e :: es) (tgsTG X.K (.cons t u)) := pgs_cons h1 h2 (by cases e <;> first | rfl | cases hn)
theorem each_len : ∀ (es : List Expr) (env : Env), (assignEach es env).length = es.length
  | [], _ => rfl
  | e :: es, env => by cases e <;> (show (assignEach es env).length + 1 = _; rw [each_len es env]; rfl)
theorem each_no : ∀ (es : List Expr) (env : Env), (es.all fun | .Starred .. => false | _ => true) = true → (assignEach es env).findIdx? (·.1) = none
  | [], _, _ => rfl
  | e :: es, env, h => by
    rw [List.all_cons, Bool.and_eq_true] at h
    have r := each_no es env h.2
    cases e <;> first | (cases h.1; done) | (show ((false, _) :: assignEach es env).findIdx? (·.1) = none; rw [List.findIdx?_cons, r]; rfl)
theorem gt_tup {es : List Expr} {k : Nat} {u : Tgs} (hc : X.calm = true) (h : PGs X es (tgsTG X.K u)) (hl : es.length = u.len) (hn : (es.all fun | .Starred .. => false | _ => true) = true) : PG X (.Tuple es k pos) (tgTG X.K (.tp u)) :=
  pg_tup hc h ((each_len es _).trans hl) (each_no es _ hn)
end
/-- the checks of a comprehension's block -/
def blkC (N : List Str) (sc scope : Scope) (own : List (Str × Nat)) : Bool :=
  scope.kind == .function && (scope.names.all fun y => scope.names.lookup y.1 == some y.2) && (own.all fun p => N[p.2]? == some p.1) &&
  (scope.names.all fun y => y.2 != .free || sc.names.lookup y.1 == some .cell || sc.names.lookup y.1 == some .free) &&
  (scope.names.all fun y => !(y.2 == .local || y.2 == .cell) || (own.map (·.1)).contains y.1 || !(N.contains y.1))
theorem blk_of {X : Cx} {N : List Str} {sc scope : Scope} {own : List (Str × Nat)} (hN : X.N = N) (hs : X.env.scope = sc) (h : blkC N sc scope own = true) : BlkOk X.N X.env.scope scope own := by
  subst hN hs
  unfold blkC at h
  simp only [Bool.and_eq_true, List.all_eq_true] at h
  obtain ⟨⟨⟨⟨h1, h2⟩, h3⟩, h4⟩, h5⟩ := h
  refine ⟨by simpa using h1, fun y hy => by simpa using h2 y hy, fun p hp => by simpa using h3 p hp, fun y hy hf => ?_, fun y hy hf => ?_⟩
  · have := h4 y hy
    simp only [Bool.or_eq_true, hf] at this
    rcases this with (z | z) | z
    · cases z
    · exact .inl (by simpa using z)
    · exact .inr (by simpa using z)
  · have := h5 y hy
    simp only [Bool.or_eq_true] at this
    rcases this with (z | z) | z
    · rcases hf with hf | hf <;> (rw [hf] at z; cases z)
    · exact .inl (by simpa using z)
    · exact .inr (by simpa using z)
theorem own_sub {l : List Nat} {m : List Nat} (h : (l.all fun i => m.contains i) = true) : ∀ i ∈ l, i ∈ m := fun i hi => by
  rw [List.all_eq_true] at h
  simpa using h i hi
theorem starEach_ok {e : Expr} {es : List Expr} {env : Env} (h : notStar e = true) : starEach (e :: es) env = (false, eval e env) :: starEach es env := by
  cases e <;> first | rfl | cases h
theorem fold_no {e : Expr} {env : Env} (h : (match e with | .Set .. => false | _ => true) = true) : ∀ x, foldedSetIterable e env x = pure x := fun x => by
  cases e <;> first | rfl | cases h
theorem swapped3 {x y z : Str} {px py pz pt pt2 : Pos} {kt k2 : Nat} {a b c : Expr} {env : Env} (hk : env.scope.kind = .function) (hx : env.scope.names.lookup x = some .local) (hy : env.scope.names.lookup y = some .local) (hz : env.scope.names.lookup z = some .local) (hxy : x ≠ y) (hxz : x ≠ z) (hyz : y ≠ z) (hl : (py.line == px.line) = true) (hl2 : (pz.line == px.line) = true) (hm : mixed [a, b, c] = true) :
    swappedStores [.Tuple [.Name x px, .Name y py, .Name z pz] kt pt] (.Tuple [a, b, c] k2 pt2) env = pure (some [x, y, z]) := by
  have hb : env.blockKind = .function := by unfold Env.blockKind; rw [hk]; rfl
  have kx : env.kindOf x = some .local := hx
  have ky : env.kindOf y = some .local := hy
  have kz : env.kindOf z = some .local := hz
  unfold mixed at hm
  simp only [Bool.and_eq_true, Bool.not_eq_true'] at hm
  obtain ⟨⟨h1, h2⟩, h3⟩ := hm
  have h4 := starsNo h1
  have hl' : py.line = px.line := by simpa using hl
  have hl2' : pz.line = px.line := by simpa using hl2
  have hne : (y == x) = false := by simpa using Ne.symm hxy
  have hne' : (x == y) = false := by simpa using hxy
  have hne2 : (z == x) = false := by simpa using Ne.symm hxz
  have hne2' : (x == z) = false := by simpa using hxz
  have hne3 : (z == y) = false := by simpa using Ne.symm hyz
  have hne3' : (y == z) = false := by simpa using hyz
  unfold swappedStores
  simp only [h2, h3, h4, hb, kx, ky, kz, Expr.pos, hl', hl2', List.filterMap_cons, List.filterMap_nil, List.head?_cons, Option.map_some, Option.getD_some, List.length_cons, List.length_nil]
  have e : [x, y, z].eraseDups = [x, y, z] := by simp [List.eraseDups_cons, hne, hne', hne2, hne2', hne3, hne3', Ne.symm hxy, Ne.symm hxz, Ne.symm hyz]
  simp only [List.any_cons, List.any_nil, Bool.or_false] at h4
  simp [hb, e, hne, hne', kx, ky, kz, hl', hl2', h4]
  simp only [Bool.or_eq_false_iff] at h4
  intro q
  rcases q with q | q | q
  · exact absurd (h4.1.symm.trans q) (by decide)
  · exact absurd (h4.2.1.symm.trans q) (by decide)
  · exact absurd (h4.2.2.symm.trans q) (by decide)

/-! ### short words -/
theorem swapsS_no {t e : Expr} {l : Nat} {env : Env} (h : isLC e = false) : swapsWithSole [t] e l env = pure false := swaps_no h
abbrev lk (sc : Scope) (x : Str) : Option NameKind := sc.names.lookup x
theorem ok_globE {X : Cx} {x : Str} {v : V} {d : D} {pos : Pos} (hg : Gl X x) (hm : ∃ u, X.mg x = some u ∧ RelV v u) (hr : ∀ F ρ, RV X.K F ρ v d) (hd : (x == ("__debug__" : Str)) = false) : PE X (.Name x pos) (tE X.K (cst d)) := by
  obtain ⟨u, h1, h2⟩ := hm
  exact ok_glob hg h1 h2 hr hd
def LenA (m : MA) (n : Nat) : Prop := ∀ ls st ds st', m ls st = .ok ds st' → ds.length = n
theorem lenA_nil : LenA nilA 0 := fun ls st ds st' h => by cases h; rfl
theorem lenA_cons {e : ME} {m : MA} {n : Nat} (h : LenA m n) : LenA (consA e m) (n + 1) := fun ls st ds st' e1 => by
  obtain ⟨d, s1, h1, h2⟩ := bind_ok e1
  obtain ⟨es, s2, h3, h4⟩ := bind_ok h2
  cases h4
  rw [List.length_cons, h _ _ _ _ h3]
section
variable {X : Cx}
theorem ok_yes : PTs X [] (tT X.K yesT) := ⟨fun pins s σ H Q I ⟨F, ρ, ls, st, b, st', S, L, hm, q⟩ => by
  cases hm
  exact pts_nil.run pins s σ H Q I (q F ρ H .refl S)⟩
theorem g_asg {N : List Str} {sc : Scope} {x : Str} {e : Expr} {me : ME} {pos pos' : Pos} (i : Nat) (hN : X.N = N) (nd : N.Nodup) (hi : N[i]? = some x) (hs : X.env.scope = sc) (h : kLoc (sc.names.lookup x) = true) (hf : X.fn x = true) (he : PE X e (tE X.K me))
    (hsw : swapsWith e (some (.Name x pos')) pos.line X.env = pure false) : PS X (.Assign [.Name x pos'] e pos) (tS X.K (asg i me)) :=
  ok_asg (hN ▸ nd) (hN ▸ hi) (hs ▸ loc_of h) he hsw (.inl hf)
theorem swaps_cellS {sc : Scope} {e : Expr} {y : Str} {py : Pos} {l : Nat} (hs : X.env.scope = sc) (h : sc.names.lookup y = some .cell) : swapsWith e (some (.Name y py)) l X.env = pure false :=
  swaps_cell (by rw [hs, h]; intro z; cases z)
theorem g_setLc {N : List Str} {sc : Scope} {pos spos py : Pos} {elt tg iter : Expr} {ifs : List Expr} {scope : Scope} {own : List (Str × Nat)} {g : Tg} {t : MT} {e : ME} {mi : MI} {i : Nat} {y : Str} (hN : X.N = N) (hs : X.env.scope = sc) (hk : sc.kind = .function) (hyl : sc.names.lookup y = some .local) (hi : N[i]? = some y)
    (hl : (py.line == pos.line) = true) (ha : (scope.names.any fun (n, k) => n == y && (k == .local || k == .cell)) = false) (hc : X.calm = true) (nd : X.N.Nodup) (hit : PI X tg iter (tI X.K mi)) (ok : BlkOk X.N X.env.scope scope own) (hd : BlkDoes X scope tg ifs elt g t e)
    (hv : ∀ i ∈ tgSlots g, i ∈ own.map (·.2)) (hf : ∀ x, foldedSetIterable iter X.env x = pure x) : PS X (.Assign [.Name y py] (.ListComp elt [⟨tg, iter, ifs, 0⟩] scope pos) spos) (tS X.K (asg i (lc (own.map (·.2)) g mi t e))) := by
  subst hN hs
  exact ok_setLc hc nd hi hyl (sw_true hk hyl hl ha) hit ok hd hv hf
theorem g_setMLc {N : List Str} {sc : Scope} {pos spos py : Pos} {elt tg iter : Expr} {ifs : List Expr} {scope : Scope} {own : List (Str × Nat)} {g : Tg} {t : MT} {e : ME} {mi : MI} {i : Nat} {y : Str} (hN : X.N = N) (hs : X.env.scope = sc) (hk : sc.kind = .function) (hyl : sc.names.lookup y = some .local) (hi : N[i]? = some y)
    (hl : (py.line == pos.line) = true) (ha : (scope.names.any fun (n, k) => n == y && (k == .local || k == .cell)) = false) (hc : X.calm = true) (nd : X.N.Nodup) (hit : PI X tg iter (tI X.K mi)) (ok : BlkOk X.N X.env.scope scope own) (hd : BlkDoes X scope tg ifs elt g t e)
    (hv : ∀ i ∈ tgSlots g, i ∈ own.map (·.2)) (hf : ∀ x, foldedSetIterable iter X.env x = pure x) : PS X (.Assign [.Name y py] (.ListComp elt [⟨tg, iter, ifs, 0⟩] scope pos) spos) (tS X.K (asg i (mlc (own.map (·.2)) g mi t e))) := by
  subst hN hs
  exact ok_setMlc hc nd hi hyl (sw_true hk hyl hl ha) hit ok hd hv hf
theorem g_par2 {N : List Str} {sc : Scope} {i j : Nat} {x y : Str} {a b : Expr} {m : MA} {px py pt pos : Pos} {kt k2 pt2} (hN : X.N = N) (hs : X.env.scope = sc) (hk : sc.kind = .function) (hc : X.calm = true) (nd : N.Nodup) (hi : N[i]? = some x) (hj : N[j]? = some y) (hij : i ≠ j)
    (hx : sc.names.lookup x = some .local) (hy : sc.names.lookup y = some .local) (ha : PA X [a, b] (tA X.K m)) (hxy : x ≠ y) (hl : (py.line == px.line) = true) (hm : mixed [a, b] = true) :
    PS X (.Assign [.Tuple [.Name x px, .Name y py] kt pt] (.Tuple [a, b] k2 pt2) pos) (tS X.K (par2 i j m)) := by
  subst hN hs
  exact ok_par2 hc nd hi hj hij hx hy ha (swapped2 hk hx hy hxy hl hm) rfl
theorem g_par3 {N : List Str} {sc : Scope} {i j l : Nat} {x y z : Str} {a b c : Expr} {m : MA} {px py pz pt pos : Pos} {kt k2 pt2} (hN : X.N = N) (hs : X.env.scope = sc) (hk : sc.kind = .function) (hc : X.calm = true) (nd : N.Nodup) (hi : N[i]? = some x) (hj : N[j]? = some y) (hl' : N[l]? = some z) (hij : i ≠ j) (hil : i ≠ l) (hjl : j ≠ l)
    (hx : sc.names.lookup x = some .local) (hy : sc.names.lookup y = some .local) (hz : sc.names.lookup z = some .local) (ha : PA X [a, b, c] (tA X.K m)) (hxy : x ≠ y) (hxz : x ≠ z) (hyz : y ≠ z) (hl : (py.line == px.line) = true) (hl2 : (pz.line == px.line) = true) (hm : mixed [a, b, c] = true) :
    PS X (.Assign [.Tuple [.Name x px, .Name y py, .Name z pz] kt pt] (.Tuple [a, b, c] k2 pt2) pos) (tS X.K (par3 i j l m)) := by
  subst hN hs
  exact ok_par3 hc nd hi hj hl' hij hil hjl hx hy hz ha (swapped3 hk hx hy hz hxy hxz hyz hl hl2 hm) rfl
theorem swapped_cell2 {sc : Scope} {x y : Str} {px py pt pt2 : Pos} {kt k2 : Nat} {a b : Expr} (hs : X.env.scope = sc) {k1 k3 : NameKind} (hx : sc.names.lookup x = some k1) (hy : sc.names.lookup y = some k3) (h : (k1 == .local && k3 == .local) = false) :
    swappedStores [.Tuple [.Name x px, .Name y py] kt pt] (.Tuple [a, b] k2 pt2) X.env = pure none := by
  subst hs
  have kx : X.env.kindOf x = some k1 := hx
  have ky : X.env.kindOf y = some k3 := hy
  unfold swappedStores
  simp only [kx, ky, Expr.pos, List.filterMap_cons, List.filterMap_nil, List.head?_cons, Option.map_some, Option.getD_some, List.length_cons, List.length_nil]
  split
  · rfl
  split
  · rfl
  have : ∀ (p q : Bool), (k1 = .local → k3 ≠ .local) := fun _ _ z1 z2 => by subst z1 z2; cases h
  cases k1 <;> cases k3 <;> first | (cases h; done) | (simp; done) | (simp; split <;> simp; done)
end
theorem swapped_cell3 {X : Cx} {sc : Scope} {x y z : Str} {px py pz pt pt2 : Pos} {kt k2 : Nat} {a b c : Expr} (hs : X.env.scope = sc) {k1 k3 k4 : NameKind} (hx : sc.names.lookup x = some k1) (hy : sc.names.lookup y = some k3) (hz : sc.names.lookup z = some k4) (h : (k1 == .local && k3 == .local && k4 == .local) = false) :
    swappedStores [.Tuple [.Name x px, .Name y py, .Name z pz] kt pt] (.Tuple [a, b, c] k2 pt2) X.env = pure none := by
  subst hs
  have kx : X.env.kindOf x = some k1 := hx
  have ky : X.env.kindOf y = some k3 := hy
  have kz : X.env.kindOf z = some k4 := hz
  unfold swappedStores
  simp only [kx, ky, kz, Expr.pos, List.filterMap_cons, List.filterMap_nil, List.head?_cons, Option.map_some, Option.getD_some, List.length_cons, List.length_nil]
  split
  · rfl
  split
  · rfl
  cases k1 <;> cases k3 <;> cases k4 <;> first | (cases h; done) | (simp; done) | (simp; split <;> simp; done) | (simp; split <;> split <;> simp; done)
theorem fnG_fun {P : Program} {w : World} {K : Frag} {mg : Str → Option Value} {base : Heap} {k : Nat} {x qual : Str} {st : Stmt} {f : Addr} {fd : FuncData} {N ps : List Str} {mt : Bool} {b : MS} (F : Fun K x qual st f fd) (S : FnScope N ps (defScope st))
    (hbody : ∀ X : Cx, X.prog = P → X.w = w → X.K = K → X.mg = mg → X.base = base → X.N = N → X.env.scope = defScope st → X.calm = true → X.xe = (fun _ _ => False) → X.fn = (fun _ => true) → X.A.guards = some [] → Room k X.A → PSs X (defBody st) (tS K b)) :
    FnG P w K mg base (k + 1) f fd ps (fnM mt N.length b) := by
  obtain ⟨oc, od, kV, doc, pm, an, cdv, ct, osl, rfl, lk, hcd⟩ := F.ex
  exact fnG_of lk hcd S hbody
theorem hu_room {k : Nat} {A : Around} (h : Room k A) : A.units + 100 < cLine := by have := h.un; omega
theorem back_any {a : Expr} {pos : Pos} {env : Env} (h : notStar a = true) : (backTo pos (starEach [a] env)).any (·.1) = false := by
  rw [starEach_ok h]; rfl
theorem boot_len : bootBuiltins "len" = some (.builtin "len") := by decide +kernel
theorem boot_abs : bootBuiltins "abs" = some (.builtin "abs") := by decide +kernel
theorem boot_min : bootBuiltins "min" = some (.builtin "min") := by decide +kernel
theorem boot_max : bootBuiltins "max" = some (.builtin "max") := by decide +kernel
theorem boot_sum : bootBuiltins "sum" = some (.builtin "sum") := by decide +kernel
theorem boot_all : bootBuiltins "all" = some (.builtin "all") := by decide +kernel
theorem boot_any : bootBuiltins "any" = some (.builtin "any") := by decide +kernel
theorem boot_repr : bootBuiltins "repr" = some (.builtin "repr") := by decide +kernel
theorem boot_sorted : bootBuiltins "sorted" = some (.builtin "sorted") := by decide +kernel
theorem boot_int : bootBuiltins "int" = some (.type "int") := by decide +kernel
theorem boot_str : bootBuiltins "str" = some (.type "str") := by decide +kernel
theorem boot_bool : bootBuiltins "bool" = some (.type "bool") := by decide +kernel
theorem boot_list : bootBuiltins "list" = some (.type "list") := by decide +kernel
theorem boot_tuple : bootBuiltins "tuple" = some (.type "tuple") := by decide +kernel
theorem boot_set : bootBuiltins "set" = some (.type "set") := by decide +kernel
section
variable {X : Cx} {a e : Expr} {ma me : ME} {p p2 pos q : Pos}
def lstRg (m : ME) : ME := fun ls st => (m ls st).bind fun d st1 => match d with
  | .int n => if -16777216 ≤ n ∧ n ≤ 16777216 then .ok (.list ((List.range n.toNat).map fun i => (PyData.int (i : Nat) : D))) st1 else .stuck
  | _ => .stuck
theorem rgV_rvs {K : Frag} {F : Hp} {ρ : List Addr} (n : Int) : RVs K F ρ (rgV 0 n) ((List.range n.toNat).map fun i => (PyData.int (i : Nat) : D)) := by
  have e : rgV 0 n = (List.range n.toNat).map fun i => V.int (i : Nat) := by
    unfold rgV
    rw [Int.sub_zero]
    exact List.map_congr_left fun i _ => by rw [Int.zero_add]
  rw [e]
  exact RVs.map (f := fun i : Nat => V.int (i : Nat)) (g := fun i : Nat => (PyData.int (i : Nat) : D)) (fun i => .int _) _
theorem ok_lstRg (hc : X.calm = true) (hg : Gl X "list") (hm : X.mg "list" = none) (hg2 : Gl X "range") (hm2 : X.mg "range" = none) (ha : PE X a (tE X.K ma)) (hs : notStar a = true := by rfl) :
    PE X (.Call (.Name "list" p) [.Call (.Name "range" p2) [a] [] q] [] pos) (tE X.K (lstRg ma)) :=
  (pe_listRg hc hg hm (prg_1 hg2 hm2 ha (starEach_ok hs)) (starEach_ok rfl)).imp fun σ H Q ⟨F, ρ, ls, st, d, st', S, L, hm, q⟩ => by
    obtain ⟨d1, st1, h1, hm⟩ := bind_ok hm
    split at hm
    · rename_i n
      split at hm
      · rename_i hn
        cases hm
        refine ⟨F, ρ, ls, st, .int n, st', S, L, h1, fun F1 ρ1 H1 v e1 S1 r1 => ?_⟩
        cases r1
        refine ⟨n, rfl, ⟨by omega, by omega, by omega, by omega, by omega⟩, fun l hl => ?_⟩
        exact q _ _ _ _ (e1.trans (ext_new S1 hl _)) (sto_new S1 hl _) (new_lst S1 hl (rgV_rvs n))
      · cases hm
    · cases hm
end
end MP

set_option Elab.async false
set_option linter.all false
set_option maxRecDepth 100000
set_option maxHeartbeats 4000000
/-! MpTop: a law by the mirror of its def. Own work. -/
namespace MP
open PySem PySem.Spec PyProof.Rows L2
section
variable {P : Program} {w : World} {K : Frag} {mg mb : Str → Option Value} {k : Nat} {fa a : Addr} {fd : FuncData} {x : Str} {m : Fn} {s : Shared} {vs : List Value} {ns : List Int}
/-- at a heap of which only the script may be abstract -/
theorem top_core (KX : K.In s.heap) (nm : s.heap.Ns mainGlobals mg) (nb : s.heap.Ns builtinsNs mb) (bb : ∀ y : Str, y ≠ "__name__" → mb y = bootBuiltins y) (lim : s.heap.NoLimit) (hg : s.gens = #[])
    (sc : s.heap.get? a = some { cls := .type "list", data := .seq vs.toArray }) (hr : Room k callerA)
    (G : ∀ base : Heap, K.In base → base.Ns mainGlobals mg → FnG P w K mg base k fa fd [x] m) (bind : ∀ (t : Shared) (u : Value), BindsTo t fd ⟨[u], []⟩ [(x, u)])
    (run : ∃ st', m [.list (ns.map PyData.int)] [] = .ok (.bool true) st') (H : Hp) (one : ∀ b, H b = none ∨ (b = a ∧ ∃ o ys, H b = some (.frz o (.lst ys)))) (S : SqL K H a (ns.map V.int)) (ok : HOk P w H s.heap) (nk : H a ≠ none → K.lookup a = none) :
    codeAny (model P w) callerA (.call (.ref fa) ⟨[.ref a], []⟩) (fun r s' => r = .ok (.ret (.bool true)) ∧ OldK s.heap s'.heap ∧ s'.os = s.os ∧ AllBare s'.gens) s := by
  have only : ∀ {b : Addr} {u : HO}, H b = some u → b = a := fun {b u} z => by
    rcases one b with q | q
    · rw [q] at z; cases z
    · exact q.1
  -- an object that is not the script stays outside the abstract heap
  have out1 : ∀ {b : Addr} {o : Obj}, s.heap.get? b = some o → b ≠ a → (hidT s.heap H).get? b = some o := fun {b o} e n => hidT_get e (by
    cases q : H b with
    | none => rfl
    | some u => exact absurd (only q) n)
  have outN : ∀ {b : Addr} {f : Str → Option Value}, s.heap.Ns b f → (hidT s.heap H).Ns b f := fun {b f} ⟨o, es, ep, e, d, r⟩ => ⟨o, es, ep, out1 e (fun z => by
    subst z; rw [sc] at e; cases e
    exact Data.noConfusion d), d, r⟩
  have KB : K.In (hidT s.heap H) := fun b o e => hidT_get (KX b o e) (by
    cases q : H b with
    | none => rfl
    | some u =>
      have z := only q
      subst z
      rw [nk (by rw [q]; exact Option.some_ne_none u)] at e
      cases e)
  obtain ⟨mc, l1, l2⟩ := lim
  have M : Mod K mg (hidT s.heap H) := ⟨KB, outN nm, ⟨mb, outN nb, bb⟩, ⟨mc, outN l1, l2⟩⟩
  have E : Env0 P w K mg (hidT s.heap H) callerA [] s H := { frames := rfl, mod := M, bs := fun b o e => of_hidT e, bsz := by rw [hidT_size]; exact Nat.le_refl _, funs := trivial, frf := fun b hb => absurd hb List.not_mem_nil, hok := ok, bare := .of_eq hg }
  obtain ⟨st', run⟩ := run
  have start : Sto K H [] [] H := { sub := fun _ _ e => e, nd := .nil, len := rfl, at_ := fun i b e => by simp at e, ok := fun i b d e => by simp at e }
  have rv : RVs K H [] [V.ref a] [.list (ns.map PyData.int)] := .cons (.lst S (RVs.map (f := V.int) (g := PyData.int) (fun i => .int i) ns)) .nil
  have R := (G _ KB (outN nm)).run callerA [] s H ⟨[.ref a], []⟩ [.ref a] [.ref a] (fun v _ => v = .bl true) H [] [] _ _ st' hr rfl E (bind s (.ref a)) (.cons rfl .nil) rfl start rv run fun F1 ρ1 H1 v _ _ r => by cases r; rfl
  refine codeAny_mono R fun r s' h => ?_
  match r, h with
  | .error e, h => exact False.elim h
  | .ok .next, h => exact False.elim h
  | .ok .brk, h => exact False.elim h
  | .ok .cont, h => exact False.elim h
  | .ok (.ret u), ⟨v, H', eo, eb, un, ok', ru, q⟩ =>
    cases q
    have hu : u = Value.bool true := ru
    refine ⟨by rw [hu], OldK.of_keep fun b o e => ?_, eo, eb⟩
    rcases one b with z | ⟨_, ob, ys, z⟩
    · exact un.keep b o e z (fun y => absurd y List.not_mem_nil) (fun y => absurd y List.not_mem_nil)
    · have p1 := (ok b _ z).1
      have p2 := (ok' b _ (un.frzs b ob _ z)).1
      rw [p1] at e
      rw [p2]; exact e
theorem top_call (KX : K.In s.heap) (nm : s.heap.Ns mainGlobals mg) (nb : s.heap.Ns builtinsNs mb) (bb : ∀ y : Str, y ≠ "__name__" → mb y = bootBuiltins y) (lim : s.heap.NoLimit) (hg : s.gens = #[])
    (sc : s.heap.get? a = some { cls := .type "list", data := .seq vs.toArray }) (hi : IntsAre vs ns) (hl : ns.length ≤ sizeLine) (hr : Room k callerA)
    (G : ∀ base : Heap, K.In base → base.Ns mainGlobals mg → FnG P w K mg base k fa fd [x] m) (bind : ∀ (t : Shared) (u : Value), BindsTo t fd ⟨[u], []⟩ [(x, u)])
    (run : ∃ st', m [.list (ns.map PyData.int)] [] = .ok (.bool true) st') :
    codeAny (model P w) callerA (.call (.ref fa) ⟨[.ref a], []⟩) (fun r s' => r = .ok (.ret (.bool true)) ∧ OldK s.heap s'.heap ∧ s'.os = s.os ∧ AllBare s'.gens) s := by
  have rv := vals_ints hi
  cases q : K.lookup a with
  | some o =>
    have e := KX a o q
    rw [sc] at e; cases e
    have nothing : ∀ (b : Addr) (u : HO), ¬ ((fun _ => none : Hp) b = some u) := fun _ _ z => by cases z
    exact top_core KX nm nb bb lim hg sc hr G bind run (fun _ => none) (fun _ => .inl rfl) (.inr ⟨_, vs.toArray, _, q, rfl, rfl, rfl, by rw [List.size_toArray, hi.length]; exact hl, by simpa using rv⟩) (fun b u z => absurd z (nothing b u)) (fun z => absurd rfl z)
  | none =>
    let H : Hp := fun b => if b = a then some (.frz { cls := .type "list", data := .seq vs.toArray } (.lst (ns.map V.int))) else none
    have Ha : H a = some (.frz { cls := .type "list", data := .seq vs.toArray } (.lst (ns.map V.int))) := if_pos rfl
    have Hn : ∀ b, b ≠ a → H b = none := fun b hb => if_neg hb
    refine top_core KX nm nb bb lim hg sc hr G bind run H (fun b => ?_) (.inl (.inr ⟨_, Ha⟩)) (fun b u z => ?_) (fun _ => q)
    · by_cases hb : b = a
      · subst hb; exact .inr ⟨rfl, _, _, Ha⟩
      · exact .inl (Hn b hb)
    · by_cases hb : b = a
      · subst hb
        rw [Ha] at z; cases z
        exact ⟨sc, by rw [List.length_map]; exact hl, vs, _, rv, sc⟩
      · rw [Hn b hb] at z; cases z
end
/-- the goal that the head leaves, by the mirror of the law's def -/
theorem top_walk {l : PySem.W.OpenLaw} {n k : Nat} {q : Program} {loose : List Str} {XP : (Str → Option Value) → Heap → Prop} {YP : World → Heap → Prop} {d : DefRec} {K : Params → Frag} {x : Str} {m : Fn} (hn : l.most = some n) (hn2 : n ≤ sizeLine) (hdf : d.params.defaults = []) (hr : Room k callerA)
    (hY : ∀ (w : World) (h : Heap), YP w h → (K w.params).In h)
    (F : ∀ (w : World) (mg : Str → Option Value) (fa : Addr) (h : Heap), (K w.params).In h → h.Ns mainGlobals mg → mg d.name = some (.ref fa) →
      ∃ fd : FuncData, (∀ (s : Shared) (u : Value), BindsTo s fd ⟨[u], []⟩ [(x, u)]) ∧ ∀ base : Heap, (K w.params).In base → base.Ns mainGlobals mg → FnG l.prog w (K w.params) mg base k fa fd [x] m)
    (run : ∀ ns : List Int, ns.length ≤ n → ∃ st', m [.list (ns.map PyData.int)] [] = .ok (.bool true) st') : PySem.W.WalkO q loose XP YP l.row.toRowW d [] (fun f vs => PySem.call f vs) := by
  refine Att.attach_call hn hdf fun w s₀ s₁ mg mb fa o pm cd doc a vs ns G Y ho hd hcd hmg hobj hints hlen hg => ?_
  obtain ⟨fd, hb, hF⟩ := F w mg fa _ (hY w _ Y) G.T.g hmg
  exact top_call (hY w _ Y) G.T.g G.T.b G.T.builtins G.T.nolimit hg hobj hints (Nat.le_trans hlen hn2) hr hF hb (run ns hlen)
end MP

set_option Elab.async false
set_option linter.all false
set_option maxRecDepth 100000
set_option maxHeartbeats 4000000
set_option exponentiation.threshold 100000
/-! MpEval: mirrors run on given values. Own work. -/
namespace MP
open PySem
section
variable {ls : Ls} {st : Store}
@[simp] theorem bind_run {α β : Type} (a : α) (st : Store) (f : α → Store → Res β) : (Res.ok a st).bind f = f a st := rfl
@[simp] theorem rd_int (i : Int) : rd st (.int i) = .int i := rfl
@[simp] theorem rd_bool (i : Bool) : rd st (.bool i) = .bool i := rfl
@[simp] theorem rd_none : rd st .none = .none := rfl
@[simp] theorem rd_str (i : Str) : rd st (.str i) = .str i := rfl
@[simp] theorem rd_tup (i : List D) : rd st (.tuple i) = .tuple i := rfl
@[simp] theorem rd_lst (i : List D) : rd st (.list i) = .list i := rfl
@[simp] theorem gAdd_int (i j : Int) : gAdd (.int i) (.int j) = some (.int (i + j)) := rfl
@[simp] theorem gSub_int (i j : Int) : gSub (.int i) (.int j) = some (.int (i - j)) := rfl
theorem gMul_int {i j : Int} (hi : i.natAbs < big) (hj : j.natAbs < big) : gMul (.int i) (.int j) = some (.int (i * j)) := if_pos ⟨hi, hj⟩
theorem gMod_int {i j : Int} (hj : j ≠ 0) : gMod (.int i) (.int j) = some (.int (i.fmod j)) := if_pos hj
theorem gDiv_int {i j : Int} (hj : j ≠ 0) (h : j.natAbs < 2 ^ 8999) : gDiv (.int i) (.int j) = some (.int (i.fdiv j)) := if_pos ⟨hj, h⟩
@[simp] theorem gNeg_int (i : Int) : gNeg (.int i) = some (.int (-i)) := rfl
@[simp] theorem gTru_bool (b : Bool) : gTru (.bool b) = some b := rfl
@[simp] theorem gTru_int (b : Int) : gTru (.int b) = some (b != 0) := rfl
@[simp] theorem gTru_none : gTru .none = some false := rfl
@[simp] theorem gTru_list (xs : List D) : gTru (.list xs) = some (!xs.isEmpty) := rfl
@[simp] theorem gTru_tup (xs : List D) : gTru (.tuple xs) = some (!xs.isEmpty) := rfl
theorem gEq_ok {d e : D} (hd : okD 40 d = true) (he : okD 40 e = true) : gEq d e = some (.bool (PyData.eqv d e)) := if_pos ⟨hd, he⟩
theorem gNe_ok {d e : D} (hd : okD 40 d = true) (he : okD 40 e = true) : gNe d e = some (.bool (!PyData.eqv d e)) := if_pos ⟨hd, he⟩
@[simp] theorem gEq_int (i j : Int) : gEq (.int i) (.int j) = some (.bool (i == j)) := by rw [gEq_ok (by simp [okD]) (by simp [okD])]; simp [PyData.eqv]
@[simp] theorem gNe_int (i j : Int) : gNe (.int i) (.int j) = some (.bool (i != j)) := by rw [gNe_ok (by simp [okD]) (by simp [okD])]; simp [PyData.eqv, bne]
@[simp] theorem gLt_int (i j : Int) : gLt (.int i) (.int j) = some (.bool (decide (i < j))) := rfl
@[simp] theorem gLe_int (i j : Int) : gLe (.int i) (.int j) = some (.bool (decide (i ≤ j))) := rfl
@[simp] theorem gGt_int (i j : Int) : gGt (.int i) (.int j) = some (.bool (decide (j < i))) := rfl
@[simp] theorem gGe_int (i j : Int) : gGe (.int i) (.int j) = some (.bool (decide (j ≤ i))) := rfl
@[simp] theorem bAbs_int (i : Int) : bAbs [.int i] = some (.int (i.natAbs : Int)) := by
  show some (PyData.int (if i < 0 then -i else i)) = _
  split <;> (congr 2; omega)
@[simp] theorem bInt_int (i : Int) : bInt [.int i] = some (.int i) := rfl
@[simp] theorem bInt_bool (b : Bool) : bInt [.bool b] = some (.int (if b then 1 else 0)) := rfl
/-- reading a call's result -/
@[simp] theorem retD_int (n : Nat) (i : Int) : retD n (.int i) st = .ok (.int i) (st.take n) := by simp [retD, okD]
@[simp] theorem retD_bool (n : Nat) (i : Bool) : retD n (.bool i) st = .ok (.bool i) (st.take n) := by simp [retD, okD]
@[simp] theorem retD_none (n : Nat) : retD n .none st = .ok .none (st.take n) := by simp [retD, okD]
@[simp] theorem retD_str (n : Nat) (i : Str) : retD n (.str i) st = .ok (.str i) (st.take n) := by simp [retD, okD]
theorem retD_tup {n : Nat} {ds : List D} (h : okD 40 (.tuple ds) = true) : retD n (.tuple ds) st = .ok (.tuple ds) (st.take n) := if_pos h
theorem retD_lst {n : Nat} {ds : List D} (h : okD 40 (.list ds) = true) : retD n (.list ds) st = .ok (.list ds) (st.take n) := if_pos h
end
/-! ### fractions -/
def frac (r : Rat) : D := .tuple [.int r.num, .int (r.den : Int)]
theorem ok_frac (r : Rat) : okD 40 (frac r) = true := by simp [frac, okD]
theorem frac_inj {r s : Rat} : frac r = frac s ↔ r = s := by
  constructor
  · intro h
    simp only [frac, PyData.tuple.injEq, List.cons.injEq, PyData.int.injEq, and_true] at h
    exact Rat.ext h.1 (by omega)
  · rintro rfl; rfl
theorem fuel_gt {n : Nat} (h : n < 2 ^ 4900) : n < fuel := Nat.lt_of_lt_of_le h (Nat.pow_le_pow_right (by decide) (by decide))
theorem big_gt {n : Nat} (h : n < 2 ^ 4900) : n < big := Nat.lt_of_lt_of_le h (Nat.pow_le_pow_right (by decide) (by decide))
/-- Euclid's laps on the slots 0, 1 -/
theorem gcd_laps (st : Store) : ∀ (n b a : Nat), b < n → whl n (tru (bin gNe (var 1) (cst (.int 0)))) (par2 0 1 (consA (var 1) (consA (bin gMod (var 0) (var 1)) nilA))) [some (.int a), some (.int b)] st = .ok (.nx [some (.int (Nat.gcd a b : Nat)), some (.int 0)]) st
  | 0, _, _, h => absurd h (Nat.not_lt_zero _)
  | n + 1, b, a, h => by
    by_cases hb : b = 0
    · subst hb
      simp [whl, tru, bin, var, cst]
    · have hb' : (b : Int) ≠ 0 := by omega
      have ih := gcd_laps st n (a % b) b (by have := Nat.mod_lt a (Nat.pos_of_ne_zero hb); omega)
      have e : (a : Int).fmod (b : Int) = ((a % b : Nat) : Int) := (Int.ofNat_fmod a b).symm
      have g : Nat.gcd b (a % b) = Nat.gcd a b := by rw [Nat.gcd_comm, ← Nat.gcd_rec, Nat.gcd_comm]
      rw [g] at ih
      simp [whl, tru, bin, var, cst, par2, consA, nilA, gMod_int hb', hb, e]
      exact ih
def IsGcd (m : Fn) : Prop := ∀ (a b : Nat) (st : Store), b < 2 ^ 4900 → m [.int a, .int b] st = .ok (.int (Nat.gcd a b : Nat)) st
theorem isGcd : IsGcd (fnM false 2 (sq (whl fuel (tru (bin gNe (var 1) (cst (.int 0)))) (par2 0 1 (consA (var 1) (consA (bin gMod (var 0) (var 1)) nilA)))) (retS (var 0)))) := fun a b st hb => by
  have h := gcd_laps st fuel b a (fuel_gt hb)
  simp [fnM, sq, startL, h, retS, var]
/-- the quotients by the signed greatest common divisor -/
theorem part_num {p q : Int} (hq : q ≠ 0) : p.fdiv (if q < 0 then -((Nat.gcd p.natAbs q.natAbs : Nat) : Int) else ((Nat.gcd p.natAbs q.natAbs : Nat) : Int)) = (Rat.divInt p q).num ∧ q.fdiv (if q < 0 then -((Nat.gcd p.natAbs q.natAbs : Nat) : Int) else ((Nat.gcd p.natAbs q.natAbs : Nat) : Int)) = ((Rat.divInt p q).den : Int) := by
  have hg : Nat.gcd p.natAbs q.natAbs ≠ 0 := fun z => hq (by have := Nat.eq_zero_of_gcd_eq_zero_right z; omega)
  have d1 : ((Nat.gcd p.natAbs q.natAbs : Nat) : Int) ∣ p := Int.ofNat_dvd_left.mpr (Nat.gcd_dvd_left _ _)
  have d2 : ((Nat.gcd p.natAbs q.natAbs : Nat) : Int) ∣ q := Int.ofNat_dvd_left.mpr (Nat.gcd_dvd_right _ _)
  have e : Int.gcd q p = Nat.gcd p.natAbs q.natAbs := by rw [Int.gcd_comm]; rfl
  rw [Rat.num_divInt, Rat.den_divInt, if_neg hq, e]
  generalize hG : Nat.gcd p.natAbs q.natAbs = g at *
  have hg' : (g : Int) ≠ 0 := by omega
  obtain ⟨a, ha⟩ := d1
  obtain ⟨b, hb⟩ := d2
  have hgp : 0 < (g : Int) := by omega
  by_cases neg : q < 0
  · rw [if_pos neg]
    have sq : q.sign = -1 := Int.sign_eq_neg_one_of_neg neg
    rw [sq]
    constructor
    · have h1 : p = (-a) * (-(g : Int)) := by rw [ha]; grind
      rw [show (-1 * p) = (-a) * (g : Int) by rw [ha]; grind, Int.mul_ediv_cancel _ hg']
      conv => lhs; rw [h1]
      exact Int.mul_fdiv_cancel _ (by omega)
    · have h1 : q = (-b) * (-(g : Int)) := by rw [hb]; grind
      conv => lhs; rw [h1]
      rw [Int.mul_fdiv_cancel _ (by omega)]
      have hbn : b < 0 := by
        rcases Int.lt_or_le b 0 with h | h
        · exact h
        · have := Int.mul_nonneg (Int.le_of_lt hgp) h; omega
      have h2 : q.natAbs = (-b).toNat * g := by
        have : (q.natAbs : Int) = (-b) * g := by
          rw [Int.ofNat_natAbs_of_nonpos (by omega), hb]; grind
        have h3 : (((-b).toNat * g : Nat) : Int) = (-b) * g := by rw [Int.natCast_mul, Int.toNat_of_nonneg (by omega)]
        omega
      rw [h2, Nat.mul_div_cancel _ (by omega)]
      omega
  · rw [if_neg neg]
    have sq : q.sign = 1 := Int.sign_eq_one_of_pos (by omega)
    rw [sq]
    constructor
    · have h1 : p = a * (g : Int) := by rw [ha]; grind
      rw [Int.one_mul, h1, Int.mul_fdiv_cancel _ hg', Int.mul_ediv_cancel _ hg']
    · have h1 : q = b * (g : Int) := by rw [hb]; grind
      conv => lhs; rw [h1]
      rw [Int.mul_fdiv_cancel _ (by omega)]
      have hbn : 0 < b := by
        rcases Int.lt_or_le 0 b with h | h
        · exact h
        · have := Int.mul_nonneg (Int.le_of_lt hgp) (show 0 ≤ -b by omega)
          rw [Int.mul_neg] at this; omega
      have h2 : q.natAbs = b.toNat * g := by
        have : (q.natAbs : Int) = b * g := by
          rw [Int.natAbs_of_nonneg (by omega), hb]; grind
        have h3 : ((b.toNat * g : Nat) : Int) = b * g := by rw [Int.natCast_mul, Int.toNat_of_nonneg (by omega)]
        omega
      rw [h2, Nat.mul_div_cancel _ (by omega)]
      omega
def IsPart (m : Fn) : Prop := ∀ (p q : Int) (st : Store), q ≠ 0 → q.natAbs < 2 ^ 4900 → m [.int p, .int q] st = .ok (frac (Rat.divInt p q)) st
theorem isPart {g : Fn} (hg : IsGcd g) : IsPart (fnM false 3 (sq (asg 2 (app g (consA (blt bAbs (consA (var 0) nilA)) (consA (blt bAbs (consA (var 1) nilA)) nilA))))
    (sq (asg 2 (ifE (tru (bin gLt (var 1) (cst (.int 0)))) (una gNeg (var 2)) (var 2)))
    (retS (tupE (consA (bin gDiv (var 0) (var 2)) (consA (bin gDiv (var 1) (var 2)) nilA))))))) := fun p q st hq hb => by
  have h := hg p.natAbs q.natAbs st hb
  obtain ⟨e1, e2⟩ := part_num (p := p) hq
  have hpos : 0 < Nat.gcd p.natAbs q.natAbs := Nat.gcd_pos_of_pos_right _ (by omega)
  have hle : Nat.gcd p.natAbs q.natAbs < 2 ^ 8999 := Nat.lt_of_le_of_lt (Nat.le_of_dvd (by omega) (Nat.gcd_dvd_right p.natAbs q.natAbs)) (Nat.lt_of_lt_of_le hb (Nat.pow_le_pow_right (by decide) (by decide)))
  have hok : okD 40 (frac (Rat.divInt p q)) = true := ok_frac _
  unfold frac at hok ⊢
  generalize Nat.gcd p.natAbs q.natAbs = k at *
  by_cases neg : q < 0
  · rw [if_pos neg] at e1 e2
    have d1 : ∀ z : Int, gDiv (.int z) (.int (-(k : Int))) = some (.int (z.fdiv (-(k : Int)))) := fun z => gDiv_int (by omega) (by rw [Int.natAbs_neg]; exact hle)
    simp [fnM, sq, asg, app, blt, consA, nilA, var, startL, h, ifE, tru, bin, cst, una, neg, retS, tupE, d1, e1, e2, retD_tup hok]
  · rw [if_neg neg] at e1 e2
    have d1 : ∀ z : Int, gDiv (.int z) (.int (k : Int)) = some (.int (z.fdiv (k : Int))) := fun z => gDiv_int (by omega) hle
    simp [fnM, sq, asg, app, blt, consA, nilA, var, startL, h, ifE, tru, bin, cst, una, neg, retS, tupE, d1, e1, e2, retD_tup hok]
/-- the same with two names more -/
theorem gcd_laps2 (x y : Option D) (st : Store) : ∀ (n b a : Nat), b < n → whl n (tru (bin gNe (var 3) (cst (.int 0)))) (par2 2 3 (consA (var 3) (consA (bin gMod (var 2) (var 3)) nilA))) [x, y, some (.int a), some (.int b)] st = .ok (.nx [x, y, some (.int (Nat.gcd a b : Nat)), some (.int 0)]) st
  | 0, _, _, h => absurd h (Nat.not_lt_zero _)
  | n + 1, b, a, h => by
    by_cases hb : b = 0
    · subst hb
      simp [whl, tru, bin, var, cst]
    · have hb' : (b : Int) ≠ 0 := by omega
      have ih := gcd_laps2 x y st n (a % b) b (by have := Nat.mod_lt a (Nat.pos_of_ne_zero hb); omega)
      have e : (a : Int).fmod (b : Int) = ((a % b : Nat) : Int) := (Int.ofNat_fmod a b).symm
      have g : Nat.gcd b (a % b) = Nat.gcd a b := by rw [Nat.gcd_comm, ← Nat.gcd_rec, Nat.gcd_comm]
      rw [g] at ih
      simp [whl, tru, bin, var, cst, par2, consA, nilA, gMod_int hb', hb, e]
      exact ih
theorem isPart2 : IsPart (fnM false 4 (sq (par2 2 3 (consA (blt bAbs (consA (var 0) nilA)) (consA (blt bAbs (consA (var 1) nilA)) nilA)))
    (sq (whl fuel (tru (bin gNe (var 3) (cst (.int 0)))) (par2 2 3 (consA (var 3) (consA (bin gMod (var 2) (var 3)) nilA))))
    (sq (asg 2 (ifE (tru (bin gLt (var 1) (cst (.int 0)))) (bin gSub (cst (.int 0)) (var 2)) (var 2)))
    (retS (tupE (consA (blt bInt (consA (bin gDiv (var 0) (var 2)) nilA)) (consA (blt bInt (consA (bin gDiv (var 1) (var 2)) nilA)) nilA)))))))) := fun p q st hq hb => by
  have h := gcd_laps2 (some (.int p)) (some (.int q)) st fuel q.natAbs p.natAbs (fuel_gt hb)
  obtain ⟨e1, e2⟩ := part_num (p := p) hq
  have hpos : 0 < Nat.gcd p.natAbs q.natAbs := Nat.gcd_pos_of_pos_right _ (by omega)
  have hle : Nat.gcd p.natAbs q.natAbs < 2 ^ 8999 := Nat.lt_of_le_of_lt (Nat.le_of_dvd (by omega) (Nat.gcd_dvd_right p.natAbs q.natAbs)) (Nat.lt_of_lt_of_le hb (Nat.pow_le_pow_right (by decide) (by decide)))
  have hok : okD 40 (frac (Rat.divInt p q)) = true := ok_frac _
  unfold frac at hok ⊢
  generalize Nat.gcd p.natAbs q.natAbs = k at *
  by_cases neg : q < 0
  · rw [if_pos neg] at e1 e2
    have d1 : ∀ z : Int, gDiv (.int z) (.int (-(k : Int))) = some (.int (z.fdiv (-(k : Int)))) := fun z => gDiv_int (by omega) (by rw [Int.natAbs_neg]; exact hle)
    simp [fnM, sq, asg, par2, blt, consA, nilA, var, startL, h, ifE, tru, bin, cst, neg, retS, tupE, d1, e1, e2, retD_tup hok]
  · rw [if_neg neg] at e1 e2
    have d1 : ∀ z : Int, gDiv (.int z) (.int (k : Int)) = some (.int (z.fdiv (k : Int))) := fun z => gDiv_int (by omega) hle
    simp [fnM, sq, asg, par2, blt, consA, nilA, var, startL, h, ifE, tru, bin, cst, neg, retS, tupE, d1, e1, e2, retD_tup hok]
/-! ### places -/
theorem gIdx_list {ds : List D} {n : Nat} {d : D} (h : ds[n]? = some d) : gIdx (.list ds) (.int n) = some d := by
  have hn := (List.getElem?_eq_some_iff.mp h).1
  show L2.atI ds n = some d
  unfold L2.atI L2.ixN
  rw [if_pos (by omega), if_pos (by omega)]
  simpa using h
theorem gIdx_tup {ds : List D} {n : Nat} {d : D} (h : ds[n]? = some d) : gIdx (.tuple ds) (.int n) = some d := gIdx_list h
@[simp] theorem gIdx_t0 (a : D) (l : List D) : gIdx (.tuple (a :: l)) (.int 0) = some a := gIdx_tup (n := 0) rfl
@[simp] theorem gIdx_t1 (a b : D) (l : List D) : gIdx (.tuple (a :: b :: l)) (.int 1) = some b := gIdx_tup (n := 1) rfl
@[simp] theorem gIdx_t2 (a b c : D) (l : List D) : gIdx (.tuple (a :: b :: c :: l)) (.int 2) = some c := gIdx_tup (n := 2) rfl
@[simp] theorem gIdx_t3 (a b c d : D) (l : List D) : gIdx (.tuple (a :: b :: c :: d :: l)) (.int 3) = some d := gIdx_tup (n := 3) rfl
@[simp] theorem gIdx_l0 (a : D) (l : List D) : gIdx (.list (a :: l)) (.int 0) = some a := gIdx_list (n := 0) rfl
@[simp] theorem gIdx_l1 (a b : D) (l : List D) : gIdx (.list (a :: b :: l)) (.int 1) = some b := gIdx_list (n := 1) rfl
@[simp] theorem gIdx_l2 (a b c : D) (l : List D) : gIdx (.list (a :: b :: c :: l)) (.int 2) = some c := gIdx_list (n := 2) rfl
@[simp] theorem gIdx_l3 (a b c d : D) (l : List D) : gIdx (.list (a :: b :: c :: d :: l)) (.int 3) = some d := gIdx_list (n := 3) rfl
theorem gIdx_last {ds : List D} {d : D} (h : ds.getLast? = some d) : gIdx (.list ds) (.int (-1)) = some d := by
  have hn : ds ≠ [] := fun z => by rw [z] at h; cases h
  have hl : 0 < ds.length := List.length_pos_iff.mpr hn
  show L2.atI ds (-1) = some d
  unfold L2.atI L2.ixN
  rw [if_neg (by omega), if_pos (by omega)]
  rw [List.getLast?_eq_getElem?] at h
  have : (-1 + (ds.length : Int)).toNat = ds.length - 1 := by omega
  simpa [this] using h
/-! ### sizes -/
structure Sz (k : Nat) (r : Rat) : Prop where
  num : r.num.natAbs < 2 ^ k
  den : r.den < 2 ^ k
theorem Sz.mono {k l : Nat} {r : Rat} (h : Sz k r) (hl : k ≤ l) : Sz l r := ⟨Nat.lt_of_lt_of_le h.num (Nat.pow_le_pow_right (by decide) hl), Nat.lt_of_lt_of_le h.den (Nat.pow_le_pow_right (by decide) hl)⟩
theorem sz_div {k : Nat} {p q : Int} (hq : q ≠ 0) (h1 : p.natAbs < 2 ^ k) (h2 : q.natAbs < 2 ^ k) : Sz k (Rat.divInt p q) := by
  refine ⟨?_, ?_⟩
  · rw [Rat.num_divInt]
    refine Nat.lt_of_le_of_lt ?_ h1
    have : (q.sign * p).natAbs = p.natAbs := by rw [Int.natAbs_mul, Int.natAbs_sign_of_ne_zero hq, Nat.one_mul]
    rw [← this, Int.natAbs_ediv_of_dvd]
    · exact Nat.div_le_self _ _
    · exact Int.dvd_mul_of_dvd_right (Int.gcd_dvd_right ..)
  · rw [Rat.den_divInt, if_neg hq]
    exact Nat.lt_of_le_of_lt (Nat.div_le_self _ _) h2
@[simp] theorem retD_frac (n : Nat) (r : Rat) (st : Store) : retD n (frac r) st = .ok (frac r) (st.take n) := retD_tup (ok_frac r)
@[simp] theorem rd_frac (st : Store) (r : Rat) : rd st (frac r) = frac r := rfl
@[simp] theorem gIdx_f0 (r : Rat) : gIdx (frac r) (.int 0) = some (.int r.num) := rfl
@[simp] theorem gIdx_f1 (r : Rat) : gIdx (frac r) (.int 1) = some (.int (r.den : Int)) := gIdx_t1 _ _ _
theorem pow_lt {a b k l : Nat} (h1 : a < 2 ^ k) (h2 : b < 2 ^ l) : a * b < 2 ^ (k + l) := by
  rw [Nat.pow_add]
  exact Nat.mul_lt_mul'' h1 h2
theorem Sz.big {k : Nat} {r : Rat} (h : Sz k r) (hk : k ≤ 4900) : r.num.natAbs < MP.big ∧ ((r.den : Int)).natAbs < MP.big :=
  ⟨big_gt (Nat.lt_of_lt_of_le h.num (Nat.pow_le_pow_right (by decide) hk)), big_gt (by rw [Int.natAbs_natCast]; exact Nat.lt_of_lt_of_le h.den (Nat.pow_le_pow_right (by decide) hk))⟩
abbrev a0 : ME := bin gIdx (var 0) (cst (.int 0))
abbrev a1 : ME := bin gIdx (var 0) (cst (.int 1))
abbrev b0 : ME := bin gIdx (var 1) (cst (.int 0))
abbrev b1 : ME := bin gIdx (var 1) (cst (.int 1))
def IsQ2 (f : Rat → Rat → Rat) (m : Fn) : Prop := ∀ (r s : Rat) (k : Nat) (st : Store), Sz k r → Sz k s → k ≤ 2400 → m [frac r, frac s] st = .ok (frac (f r s)) st
def IsQLess (m : Fn) : Prop := ∀ (r s : Rat) (k : Nat) (st : Store), Sz k r → Sz k s → k ≤ 2400 → m [frac r, frac s] st = .ok (.bool (decide (r < s))) st
theorem two_den {r s : Rat} {k : Nat} (h1 : Sz k r) (h2 : Sz k s) (hk : k ≤ 2400) : ((r.den : Int) * (s.den : Int)) ≠ 0 ∧ ((r.den : Int) * (s.den : Int)).natAbs < 2 ^ 4900 := by
  refine ⟨?_, ?_⟩
  · have a := r.den_nz
    have b := s.den_nz
    exact Int.mul_ne_zero (by omega) (by omega)
  · rw [Int.natAbs_mul, Int.natAbs_natCast, Int.natAbs_natCast]
    exact Nat.lt_of_lt_of_le (pow_lt h1.den h2.den) (Nat.pow_le_pow_right (by decide) (by omega))
theorem isMinus {p : Fn} (hp : IsPart p) : IsQ2 (· - ·) (fnM false 2 (retS (app p (consA (bin gSub (bin gMul a0 b1) (bin gMul b0 a1)) (consA (bin gMul a1 b1) nilA))))) := fun r s k st h1 h2 hk => by
  obtain ⟨r1, r2⟩ := h1.big (by omega)
  obtain ⟨s1, s2⟩ := h2.big (by omega)
  obtain ⟨d1, d2⟩ := two_den h1 h2 hk
  have e : Rat.divInt (r.num * (s.den : Int) - s.num * (r.den : Int)) ((r.den : Int) * (s.den : Int)) = r - s := by
    rw [Rat.sub_def', ← Rat.divInt_ofNat, Int.natCast_mul]
  simp [fnM, retS, app, consA, nilA, bin, var, cst, startL, gMul_int r1 s2, gMul_int s1 r2, gMul_int r2 s2, hp _ _ st d1 d2, e]
theorem isPlus {p : Fn} (hp : IsPart p) : IsQ2 (· + ·) (fnM false 2 (retS (app p (consA (bin gAdd (bin gMul a0 b1) (bin gMul b0 a1)) (consA (bin gMul a1 b1) nilA))))) := fun r s k st h1 h2 hk => by
  obtain ⟨r1, r2⟩ := h1.big (by omega)
  obtain ⟨s1, s2⟩ := h2.big (by omega)
  obtain ⟨d1, d2⟩ := two_den h1 h2 hk
  have e : Rat.divInt (r.num * (s.den : Int) + s.num * (r.den : Int)) ((r.den : Int) * (s.den : Int)) = r + s := by
    rw [Rat.add_def', ← Rat.divInt_ofNat, Int.natCast_mul]
  simp [fnM, retS, app, consA, nilA, bin, var, cst, startL, gMul_int r1 s2, gMul_int s1 r2, gMul_int r2 s2, hp _ _ st d1 d2, e]
theorem isTimes {p : Fn} (hp : IsPart p) : IsQ2 (· * ·) (fnM false 2 (retS (app p (consA (bin gMul a0 b0) (consA (bin gMul a1 b1) nilA))))) := fun r s k st h1 h2 hk => by
  obtain ⟨r1, r2⟩ := h1.big (by omega)
  obtain ⟨s1, s2⟩ := h2.big (by omega)
  obtain ⟨d1, d2⟩ := two_den h1 h2 hk
  have e : Rat.divInt (r.num * s.num) ((r.den : Int) * (s.den : Int)) = r * s := by
    rw [Rat.mul_def', ← Rat.divInt_ofNat, Int.natCast_mul]
  simp [fnM, retS, app, consA, nilA, bin, var, cst, startL, gMul_int r1 s1, gMul_int r2 s2, hp _ _ st d1 d2, e]
/-- by a fraction that is not nought -/
def IsQDiv (m : Fn) : Prop := ∀ (r s : Rat) (k : Nat) (st : Store), Sz k r → Sz k s → k ≤ 2400 → s ≠ 0 → m [frac r, frac s] st = .ok (frac (r / s)) st
theorem isThrough {p : Fn} (hp : IsPart p) : IsQDiv (fnM false 2 (retS (app p (consA (bin gMul a0 b1) (consA (bin gMul a1 b0) nilA))))) := fun r s k st h1 h2 hk h0 => by
  obtain ⟨r1, r2⟩ := h1.big (by omega)
  obtain ⟨s1, s2⟩ := h2.big (by omega)
  have z : s.num ≠ 0 := fun q => h0 (Rat.num_eq_zero.mp q)
  have d1 : ((r.den : Int) * s.num) ≠ 0 := Int.mul_ne_zero (by have := r.den_nz; omega) z
  have d2 : ((r.den : Int) * s.num).natAbs < 2 ^ 4900 := by
    rw [Int.natAbs_mul, Int.natAbs_natCast]
    exact Nat.lt_of_lt_of_le (pow_lt h1.den h2.num) (Nat.pow_le_pow_right (by decide) (by omega))
  have e : Rat.divInt (r.num * (s.den : Int)) ((r.den : Int) * s.num) = r / s := by
    rw [Rat.div_def, Rat.inv_def]
    conv => rhs; lhs; rw [← Rat.num_divInt_den r]
    rw [Rat.divInt_mul_divInt]
  simp [fnM, retS, app, consA, nilA, bin, var, cst, startL, gMul_int r1 s2, gMul_int r2 s1, hp _ _ st d1 d2, e]
theorem isLess : IsQLess (fnM false 2 (retS (bin gLt (bin gMul a0 b1) (bin gMul b0 a1)))) := fun r s k st h1 h2 hk => by
  obtain ⟨r1, r2⟩ := h1.big (by omega)
  obtain ⟨s1, s2⟩ := h2.big (by omega)
  simp [fnM, retS, bin, var, cst, startL, gMul_int r1 s2, gMul_int s1 r2, Rat.lt_iff]
/-! ### sizes of what is reckoned -/
theorem sz_add {r s : Rat} {k : Nat} (h1 : Sz k r) (h2 : Sz k s) : Sz (2 * k + 1) (r + s) := by
  have a := r.den_nz
  have b := s.den_nz
  rw [Rat.add_def', ← Rat.divInt_ofNat]
  have m1 := pow_lt h1.num h2.den
  have m2 := pow_lt h2.num h1.den
  have m3 := pow_lt h1.den h2.den
  refine sz_div (by have := Nat.mul_ne_zero a b; omega) ?_ ?_
  · refine Nat.lt_of_le_of_lt (Int.natAbs_add_le _ _) ?_
    rw [Int.natAbs_mul, Int.natAbs_mul, Int.natAbs_natCast, Int.natAbs_natCast, Nat.pow_succ, show 2 * k = k + k by omega]
    omega
  · rw [Int.natAbs_natCast, Nat.pow_succ, show 2 * k = k + k by omega]; omega
theorem sz_neg {r : Rat} {k : Nat} (h : Sz k r) : Sz k (-r) := ⟨by rw [Rat.neg_num, Int.natAbs_neg]; exact h.num, h.den⟩
theorem sz_sub {r s : Rat} {k : Nat} (h1 : Sz k r) (h2 : Sz k s) : Sz (2 * k + 1) (r - s) := by
  rw [Rat.sub_eq_add_neg]; exact sz_add h1 (sz_neg h2)
theorem sz_mul {r s : Rat} {k : Nat} (h1 : Sz k r) (h2 : Sz k s) : Sz (2 * k) (r * s) := by
  have a := r.den_nz
  have b := s.den_nz
  rw [Rat.mul_def', ← Rat.divInt_ofNat]
  refine sz_div (by have := Nat.mul_ne_zero a b; omega) ?_ ?_
  · rw [Int.natAbs_mul, show 2 * k = k + k by omega]; exact pow_lt h1.num h2.num
  · rw [Int.natAbs_natCast, show 2 * k = k + k by omega]; exact pow_lt h1.den h2.den
theorem sz_nat {n k : Nat} (h : n < 2 ^ k) (hk : 0 < k) : Sz k (n : Rat) := ⟨by rw [Rat.num_natCast, Int.natAbs_natCast]; exact h, by rw [Rat.den_natCast]; exact Nat.one_lt_two_pow (by omega)⟩
/-! ### comprehensions and loops over known lists -/
theorem lcL_run {α : Type} {i : Nat} {t : MT} {e : ME} {ls : Ls} {st : Store} (f h : α → D) (p : α → Bool) : ∀ (xs : List α), xs.length ≤ 16777216 →
    (∀ x ∈ xs, t (ls.set i (some (f x))) st = .ok (p x) st ∧ (p x = true → e (ls.set i (some (f x))) st = .ok (h x) st)) → lcL (.nm i) t e ls (xs.map f) st = .ok ((xs.filter p).map h) st
  | [], _, _ => rfl
  | x :: xs, hl, hx => by
    rw [List.length_cons] at hl
    have ih := lcL_run (i := i) (t := t) (e := e) (ls := ls) (st := st) f h p xs (by omega) fun y hy => hx y (List.mem_cons_of_mem _ hy)
    obtain ⟨h1, h2⟩ := hx x List.mem_cons_self
    rw [List.map_cons]
    unfold lcL
    simp only [tgSet, h1, bind_run]
    by_cases q : p x = true
    · rw [if_pos q, h2 q]
      have le : ((xs.filter p).map h).length < 16777216 := by
        rw [List.length_map]
        exact Nat.lt_of_le_of_lt (List.length_filter_le _ _) (by omega)
      simp only [bind_run, ih, if_pos le, List.filter_cons_of_pos q, List.map_cons]
    · rw [if_neg q, ih, List.filter_cons_of_neg q]
theorem lc_run {α : Type} {vs : List Nat} {i : Nat} {it : MI} {t : MT} {e : ME} {ls : Ls} {st st1 : Store} (xs : List α) (f h : α → D) (p : α → Bool) (hit : it ls st = .ok (xs.map f) st1) (hl : xs.length ≤ 16777216)
    (hx : ∀ x ∈ xs, t ((wipeL ls vs).set i (some (f x))) st1 = .ok (p x) st1 ∧ (p x = true → e ((wipeL ls vs).set i (some (f x))) st1 = .ok (h x) st1)) : lc vs (.nm i) it t e ls st = .ok (.list ((xs.filter p).map h)) st1 := by
  unfold lc
  rw [hit, bind_run, lcL_run f h p xs hl hx, bind_run]
theorem lc_all {α : Type} {vs : List Nat} {i : Nat} {it : MI} {e : ME} {ls : Ls} {st st1 : Store} (xs : List α) (f h : α → D) (hit : it ls st = .ok (xs.map f) st1) (hl : xs.length ≤ 16777216)
    (hx : ∀ x ∈ xs, e ((wipeL ls vs).set i (some (f x))) st1 = .ok (h x) st1) : lc vs (.nm i) it yesT e ls st = .ok (.list (xs.map h)) st1 := by
  have := lc_run (vs := vs) (t := yesT) (e := e) xs f h (fun _ => true) hit hl fun x hx' => ⟨rfl, fun _ => hx x hx'⟩
  rwa [List.filter_eq_self.mpr (fun _ _ => rfl)] at this
/-- a loop by a word that is kept -/
theorem forL_run {α : Type} {g : Tg} {body : MS} (f : α → D) (I : List α → Ls → Store → Prop) (step : ∀ x r ls st, I (x :: r) ls st → ∃ ls1 ls2 st2, tgSet g (f x) ls = some ls1 ∧ body ls1 st = .ok (.nx ls2) st2 ∧ I r ls2 st2) :
    ∀ (xs : List α) (ls : Ls) (st : Store), I xs ls st → ∃ ls' st', forL g body (xs.map f) ls st = .ok (.nx ls') st' ∧ I [] ls' st'
  | [], ls, st, h => ⟨ls, st, rfl, h⟩
  | x :: r, ls, st, h => by
    obtain ⟨ls1, ls2, st2, h1, h2, h3⟩ := step x r ls st h
    obtain ⟨ls', st', h4, h5⟩ := forL_run f I step r ls2 st2 h3
    refine ⟨ls', st', ?_, h5⟩
    rw [List.map_cons]
    unfold forL
    simp only [h1, h2, bind_run, h4]
theorem rng_nat (k : Nat) : rng 0 k = (List.range k).map fun i => PyData.int (i : Nat) := by
  unfold rng
  rw [Int.sub_zero, Int.toNat_natCast]
  exact List.map_congr_left fun i _ => by rw [Int.zero_add]
theorem rng_from (lo hi : Nat) : rng lo hi = (List.range' lo (hi - lo)).map fun i => PyData.int (i : Nat) := by
  unfold rng
  have : ((hi : Int) - (lo : Int)).toNat = hi - lo := by omega
  rw [this, List.range'_eq_map_range, List.map_map]
  exact List.map_congr_left fun i _ => by simp
/-! ### what is equal -/
mutual
theorem eqv_refl : ∀ (n : Nat) (d : D), okD n d = true → PyData.eqv d d = true
  | _, .none, _ => by simp [PyData.eqv]
  | _, .bool _, _ => by simp [PyData.eqv]
  | _, .int _, _ => by simp [PyData.eqv]
  | _, .str _, _ => by simp [PyData.eqv]
  | 0, .list xs, h => by simp [okD] at h
  | 0, .tuple xs, h => by simp [okD] at h
  | n + 1, .list xs, h => by
    rw [PyData.eqv]
    exact eqvAll_refl n xs (by simpa [okD] using h)
  | n + 1, .tuple xs, h => by
    rw [PyData.eqv]
    exact eqvAll_refl n xs (by simpa [okD] using h)
  | _, .dict _, h => by simp [okD] at h
theorem eqvAll_refl : ∀ (n : Nat) (ds : List D), (∀ d ∈ ds, okD n d = true) → PyData.eqvAll ds ds = true
  | _, [], _ => by simp [PyData.eqvAll]
  | n, d :: ds, h => by
    rw [PyData.eqvAll, eqv_refl n d (h d List.mem_cons_self), eqvAll_refl n ds fun e he => h e (List.mem_cons_of_mem _ he)]
    rfl
end
theorem gNe_self {d : D} (h : okD 40 d = true) : gNe d d = some (.bool false) := by rw [gNe_ok h h, eqv_refl 40 d h]; rfl
theorem gEq_self {d : D} (h : okD 40 d = true) : gEq d d = some (.bool true) := by rw [gEq_ok h h, eqv_refl 40 d h]
theorem eqv_frac (r s : Rat) : PyData.eqv (frac r) (frac s) = decide (r = s) := by
  unfold frac
  simp only [PyData.eqv, PyData.eqvAll, Bool.and_true]
  by_cases h : r = s
  · subst h; simp
  · rw [decide_eq_false h]
    by_cases a : r.num = s.num
    · have : r.den ≠ s.den := fun b => h (Rat.ext a b)
      simp [a]; omega
    · simp [a]
/-! ### what repr shows -/
mutual
def wt : D → Nat
  | .none => 5
  | .bool _ => 5
  | .int _ => 2000
  | .str _ => 16777217
  | .list xs => 3 + wtAll xs
  | .tuple xs => 3 + wtAll xs
  | .dict _ => 16777217
def wtAll : List D → Nat
  | [] => 0
  | x :: xs => wt x + 2 + wtAll xs
end
mutual
theorem shown_le : ∀ d : D, d.showable = true → wt d ≤ 16777216 → d.shown.length ≤ wt d
  | .none, _, _ => by simp only [PyData.shown, wt]; decide
  | .bool b, _, _ => by simp only [PyData.shown, wt]; cases b <;> decide
  | .int i, h, _ => by
    have h' : i.natAbs.log2 < 1920 := by simpa [PyData.showable] using h
    simp only [PyData.shown, wt]
    have := int_text_length_le (k := 1920) (by decide) h'
    rw [ofString_length]
    omega
  | .str x, _, h => by simp [wt] at h
  | .list xs, h, hw => by
    simp only [wt] at hw
    have := shownAll_le xs (by simpa [PyData.showable] using h) (by omega)
    have l := listText_len_le (PyData.shownAll xs)
    simp only [PyData.shown, wt]
    omega
  | .tuple xs, h, hw => by
    simp only [wt] at hw
    have := shownAll_le xs (by simpa [PyData.showable] using h) (by omega)
    have l := tupleText_len_le (PyData.shownAll xs)
    simp only [PyData.shown, wt]
    omega
  | .dict x, _, h => by simp [wt] at h
theorem shownAll_le : ∀ ds : List D, PyData.showableAll ds = true → wtAll ds ≤ 16777216 → ((PyData.shownAll ds).map (·.length)).sum + 2 * (PyData.shownAll ds).length ≤ wtAll ds
  | [], _, _ => by simp [PyData.shownAll, wtAll]
  | d :: ds, h, hw => by
    simp only [wtAll] at hw ⊢
    simp only [PyData.showableAll, Bool.and_eq_true] at h
    have h1 := shown_le d h.1 (by omega)
    have h2 := shownAll_le ds h.2 (by omega)
    simp only [PyData.shownAll, List.map_cons, List.sum_cons, List.length_cons]
    omega
end
/-- what may be shown: not too long, no texts, no great ints -/
def Sho (d : D) : Prop := okD 40 d = true ∧ d.showable = true ∧ wt d ≤ 16777216
theorem reprD_ok {d : D} (h : Sho d) : bRepr.reprD d = some (.str d.shown) := if_pos ⟨h.1, h.2.1, Nat.le_trans (shown_le d h.2.1 h.2.2) h.2.2⟩
theorem bRepr_tup {ds : List D} (h : Sho (.tuple ds)) : bRepr [.tuple ds] = some (.str (PyData.shown (.tuple ds))) := reprD_ok h
theorem bRepr_lst {ds : List D} (h : Sho (.list ds)) : bRepr [.list ds] = some (.str (PyData.shown (.list ds))) := reprD_ok h
theorem gNe_str (s : Str) : gNe (.str s) (.str s) = some (.bool false) := gNe_self (by simp [okD])
theorem gEq_str (s : Str) : gEq (.str s) (.str s) = some (.bool true) := gEq_self (by simp [okD])
theorem showable_int {i : Int} (h : i.natAbs < 2 ^ 1920) : PyData.showable (.int i) = true := by
  simp only [PyData.showable, decide_eq_true_eq]
  by_cases h0 : i.natAbs = 0
  · rw [h0]; decide
  · exact (Nat.log2_lt h0).mpr h
/-! ### one step of a mirror -/
section
variable {ls ls1 : Ls} {st st1 st2 : Store} {d x y z : D} {ds : List D}
theorem retD_ok {n : Nat} (o : okD 40 d = true) : retD n d st = .ok d (st.take n) := by
  cases d with
  | dict kvs => simp [okD] at o
  | _ => exact if_pos (e := Res.stuck) o
theorem run_fn {n : Nat} {b : MS} (h : b (startL n ds) st = .ok (.rt d) st) (o : okD 40 d = true) : fnM false n b ds st = .ok d st := by
  have r : retD st.length d st = .ok d st := by rw [retD_ok o, List.take_length]
  unfold fnM
  rw [h]
  exact r
theorem run_fn' {n : Nat} {b : MS} {st0 : Store} {c : Option D} (h : b (startL n ds) (st0 ++ [c]) = .ok (.rt d) st1) (hl : st1.length = st0.length + 1) (o : okD 40 d = true) : fnM false n b ds (st0 ++ [c]) = .ok d st1 := by
  have r : retD (st0 ++ [c]).length d st1 = .ok d st1 := by
    have e : st1.take (st0 ++ [c]).length = st1 := List.take_of_length_le (by simp [hl])
    rw [retD_ok o, e]
  unfold fnM
  rw [h]
  exact r
theorem run_fnN {n : Nat} {b : MS} (h : b (startL n ds) st = .ok (.nx ls) st) : fnM false n b ds st = .ok .none st := by
  unfold fnM
  rw [h]
  show Res.ok _ (st.take st.length) = _
  rw [List.take_length]
theorem run_sq {a b : MS} {r : Res Fl} (h1 : a ls st = .ok (.nx ls1) st1) (h2 : b ls1 st1 = r) : sq a b ls st = r := by
  unfold sq
  rw [h1]; exact h2
theorem run_sqR {a b : MS} (h1 : a ls st = .ok (.rt d) st1) : sq a b ls st = .ok (.rt d) st1 := by
  unfold sq
  rw [h1]; rfl
theorem run_ret {e : ME} (h : e ls st = .ok d st1) : retS e ls st = .ok (.rt d) st1 := by
  unfold retS
  rw [h]; rfl
theorem run_asg {e : ME} {i : Nat} (h : e ls st = .ok d st1) : asg i e ls st = .ok (.nx (ls.set i (some d))) st1 := by
  unfold asg
  rw [h]; rfl
theorem run_asgT {e : ME} {g : Tg} (h : e ls st = .ok d st1) (hg : tgSet g d ls = some ls1) : asgT g e ls st = .ok (.nx ls1) st1 := by
  unfold asgT
  rw [h, bind_run, hg]
theorem run_par2 {a : MA} {i j : Nat} (h : a ls st = .ok [x, y] st1) : par2 i j a ls st = .ok (.nx ((ls.set i (some x)).set j (some y))) st1 := by
  unfold par2
  rw [h]; rfl
theorem run_par3 {a : MA} {i j k : Nat} (h : a ls st = .ok [x, y, z] st1) : par3 i j k a ls st = .ok (.nx (((ls.set i (some x)).set j (some y)).set k (some z))) st1 := by
  unfold par3
  rw [h]; rfl
theorem run_drp {e : ME} (h : e ls st = .ok d st1) : drp e ls st = .ok (.nx ls) st1 := by
  unfold drp
  rw [h]; rfl
theorem run_iffT {c : MT} {a b : MS} {r : Res Fl} (h : c ls st = .ok true st1) (h2 : a ls st1 = r) : iff c a b ls st = r := by
  unfold iff
  rw [h]; exact h2
theorem run_iffF {c : MT} {a b : MS} {r : Res Fl} (h : c ls st = .ok false st1) (h2 : b ls st1 = r) : iff c a b ls st = r := by
  unfold iff
  rw [h]; exact h2
theorem run_app {a : MA} {m : Fn} {r : Res D} (h : a ls st = .ok ds st1) (h2 : m ds st1 = r) : app m a ls st = r := by
  unfold app
  rw [h]; exact h2
theorem run_blt {a : MA} {g : GL} (h : a ls st = .ok ds st1) (hg : g (ds.map (rd st1)) = some z) : blt g a ls st = .ok z st1 := by
  unfold blt
  rw [h, bind_run, hg]; rfl
theorem run_cons {e : ME} {a : MA} (h1 : e ls st = .ok d st1) (h2 : a ls st1 = .ok ds st2) : consA e a ls st = .ok (d :: ds) st2 := by
  unfold consA
  rw [h1, bind_run, h2]; rfl
theorem run_nil : nilA ls st = .ok [] st := rfl
theorem run_one {e : ME} (h1 : e ls st = .ok d st1) : consA e nilA ls st = .ok [d] st1 := run_cons h1 run_nil
theorem run_tup {a : MA} (h : a ls st = .ok ds st1) (hl : ds.length ≤ 16777216 := by simp) : tupE a ls st = .ok (.tuple ds) st1 := by
  unfold tupE
  rw [h, bind_run, if_pos hl]
theorem run_lst {a : MA} (h : a ls st = .ok ds st1) (hl : ds.length ≤ 16777216 := by simp) : lstE a ls st = .ok (.list ds) st1 := by
  unfold lstE
  rw [h, bind_run, if_pos hl]
theorem run_var {i : Nat} (h : ls[i]? = some (some d) := by rfl) : var i ls st = .ok d st := by
  unfold var
  rw [h]
theorem run_cst : cst d ls st = .ok d st := rfl
theorem run_bin {a b : ME} {g : G2} (h1 : a ls st = .ok x st1) (h2 : b ls st1 = .ok y st2) (hg : g (rd st2 x) (rd st2 y) = some z) : bin g a b ls st = .ok z st2 := by
  unfold bin
  rw [h1, bind_run, h2, bind_run, hg]; rfl
theorem run_una {a : ME} {g : D → Option D} (h1 : a ls st = .ok x st1) (hg : g (rd st1 x) = some z) : una g a ls st = .ok z st1 := by
  unfold una
  rw [h1, bind_run, hg]; rfl
theorem run_tru {a : ME} {b : Bool} (h1 : a ls st = .ok x st1) (hg : gTru (rd st1 x) = some b) : tru a ls st = .ok b st1 := by
  unfold tru
  rw [h1, bind_run, hg]; rfl
theorem run_not {a : MT} {b : Bool} (h : a ls st = .ok b st1) : notT a ls st = .ok (!b) st1 := by
  unfold notT
  rw [h]; rfl
theorem run_val {a : MT} {b : Bool} (h : a ls st = .ok b st1) : valT a ls st = .ok (.bool b) st1 := by
  unfold valT
  rw [h]; rfl
theorem run_andT {a b : MT} {r : Res Bool} (h : a ls st = .ok true st1) (h2 : b ls st1 = r) : andT a b ls st = r := by
  unfold andT
  rw [h]; exact h2
theorem run_andF {a b : MT} (h : a ls st = .ok false st1) : andT a b ls st = .ok false st1 := by
  unfold andT
  rw [h]; rfl
theorem run_orF {a b : MT} {r : Res Bool} (h : a ls st = .ok false st1) (h2 : b ls st1 = r) : orT a b ls st = r := by
  unfold orT
  rw [h]; exact h2
theorem run_orT {a b : MT} (h : a ls st = .ok true st1) : orT a b ls st = .ok true st1 := by
  unfold orT
  rw [h]; rfl
theorem run_iterS {a : ME} (h : a ls st = .ok (.list ds) st1) : iterS a ls st = .ok ds st1 := by
  unfold iterS
  rw [h]; rfl
theorem run_iterT {a : ME} (h : a ls st = .ok (.tuple ds) st1) : iterS a ls st = .ok ds st1 := by
  unfold iterS
  rw [h]; rfl
end
end MP

set_option Elab.async false
set_option linter.all false
set_option maxRecDepth 100000
set_option maxHeartbeats 4000000
set_option exponentiation.threshold 100000
/-! MpPot: the numbers that a script gives. Own work. -/
namespace MP
open PySem
/-- the pot made of a script's cell -/
def potM (c0 c1 c2 c3 c4 : Int) : Fn := fnM true 5 (sq (asg 2 (ifE (tru (bin gLt (var 1) (blt bLen (consA (var 0) nilA)))) (bin gIdx (var 0) (var 1)) (bin gAdd (bin gAdd (bin gMod (blt bInt (consA (blt bSum (consA (slc (var 0) noP (someP (cst (.int 1)))) nilA)) nilA)) (cst (.int 1000003))) (bin gMul (cst (.int c0)) (var 1))) (cst (.int c1)))))
    (sq (asg 3 (bin gMul (bin gMod (blt bInt (consA (blt bAbs (consA (var 2) nilA)) nilA)) (bin gPow (bin gPow (cst (.int 10)) (cst (.int 60))) (cst (.int 5)))) (blt bInt (consA (bin gGe (blt bAbs (consA (var 2) nilA)) (bin gPow (cst (.int 10)) (cst (.int 18)))) nilA))))
    (sq (asg 4 (bin gMod (blt bInt (consA (var 2) nilA)) (cst (.int 2305843009213693951))))
    (retS (mutE (consA (var 3) (consA (bin gMod (blt bInt (consA (bin gAdd (bin gAdd (bin gMul (var 4) (cst (.int c2))) (bin gMul (bin gMul (cst (.int c3)) (var 1)) (var 1))) (cst (.int c4))) nilA)) (cst (.int 2305843009213693921))) (consA (cst (.int 0)) nilA))))))))
/-- a digit of it -/
def takeB (c5 c6 c7 : Int) : Fn := fnM false 5 (sq (iff (tru (bin gGt (bin gIdx (var 0) (cst (.int 0))) (cst (.int 0)))) (sq (asg 4 (bin gMod (blt bInt (consA (bin gIdx (var 0) (cst (.int 0))) nilA)) (var 1)))
    (sq (setS (var 0) (cst (.int 0)) (bin gDiv (bin gIdx (var 0) (cst (.int 0))) (var 1)))
    (retS (blt bInt (consA (var 4) nilA))))) skp)
    (sq (setS (var 0) (cst (.int 2)) (bin gAdd (bin gIdx (var 0) (cst (.int 2))) (cst (.int 1))))
    (sq (asg 2 (bin gIdx (lstE (consA (cst (.int 2147483647)) (consA (cst (.int 2147483629)) (consA (cst (.int 2147483587)) (consA (cst (.int 2147483579)) nilA))))) (bin gMod (blt bInt (consA (bin gIdx (var 0) (cst (.int 2))) nilA)) (cst (.int 4)))))
    (sq (asg 3 (bin gMod (blt bInt (consA (bin gPow (blt bInt (consA (bin gAdd (bin gAdd (bin gIdx (var 0) (cst (.int 1))) (bin gMul (bin gMul (cst (.int c5)) (bin gIdx (var 0) (cst (.int 2)))) (bin gIdx (var 0) (cst (.int 2))))) (cst (.int c6))) nilA)) (cst (.int 3))) nilA)) (var 2)))
    (retS (blt bInt (consA (bin gMod (blt bInt (consA (bin gDiv (bin gMul (var 3) (bin gAdd (bin gMod (blt bInt (consA (var 3) nilA)) (cst (.int 10007))) (bin gMul (cst (.int c7)) (bin gIdx (var 0) (cst (.int 2)))))) (cst (.int 307))) nilA)) (var 1)) nilA)))))))
def potL (p0 p1 p2 : Int) : D := .list [.int p0, .int p1, .int p2]
/-- the store ends with the pot of which at most n digits are taken; before it stands st0 -/
def Pot (n : Nat) (st0 st : Store) : Prop := ∃ p0 p1 p2 : Int, st = st0 ++ [some (potL p0 p1 p2)] ∧ 0 ≤ p0 ∧ (0 ≤ p1 ∧ p1 < 2 ^ 62) ∧ 0 ≤ p2 ∧ p2 ≤ n
theorem Pot.mono {n m : Nat} {st0 st : Store} (h : Pot n st0 st) (hm : n ≤ m) : Pot m st0 st := by
  obtain ⟨a, b, c, h1, h2, h3, h4, h5⟩ := h
  exact ⟨a, b, c, h1, h2, h3, h4, by omega⟩
theorem rd_pot (st0 : Store) (xs : List D) : rd (st0 ++ [some (.list xs)]) (mref st0.length) = .list xs := by
  show (match (st0 ++ [some (PyData.list xs)])[st0.length]? with | some (some (.list xs)) => PyData.list xs | _ => mref st0.length) = _
  rw [List.getElem?_append_right (Nat.le_refl _), Nat.sub_self]
  rfl
theorem take_all (st0 : Store) (x : Option D) : List.take (st0.length + 1) (st0 ++ [x]) = st0 ++ [x] := List.take_of_length_le (by simp)
theorem getM_pot (st0 : Store) (xs : List D) : getM (st0 ++ [some (.list xs)]) (mref st0.length) = some (st0.length, xs) := by
  show (match (st0 ++ [some (PyData.list xs)])[st0.length]? with | some (some (.list ds)) => some (st0.length, ds) | _ => none) = _
  rw [List.getElem?_append_right (Nat.le_refl _), Nat.sub_self]
  rfl
theorem set_pot (st0 : Store) (x y : Option D) : (st0 ++ [x]).set st0.length y = st0 ++ [y] := by
  rw [List.set_append_right _ _ (Nat.le_refl _), Nat.sub_self]; rfl
theorem okD_int (i : Int) : okD 40 (.int i) = true := by simp [okD]
theorem gPow_int {i : Int} {j : Nat} (h1 : j ≤ 1000) (h2 : i.natAbs < big) : gPow (.int i) (.int j) = some (.int (i ^ j)) := by
  have : gPow (.int i) (.int j) = some (.int (i ^ (j : Int).toNat)) := if_pos ⟨by omega, by omega, h2⟩
  rw [this]; rfl
theorem fmod_lo {a b : Int} (hb : 0 < b) : 0 ≤ a.fmod b := Int.fmod_nonneg_of_pos a hb
theorem fmod_hi {a b : Int} (hb : 0 < b) : a.fmod b < b := Int.fmod_lt_of_pos a hb
theorem natAbs_mul_lt {a b : Int} {k l : Nat} (h1 : a.natAbs < 2 ^ k) (h2 : b.natAbs < 2 ^ l) : (a * b).natAbs < 2 ^ (k + l) := by
  rw [Int.natAbs_mul]; exact pow_lt h1 h2
theorem small {a : Int} {n : Nat} (h : a.natAbs < 2 ^ n) (hk : n ≤ 4900) : a.natAbs < big := big_gt (Nat.lt_of_lt_of_le h (Nat.pow_le_pow_right (by decide) hk))
theorem take_pot {c5 c6 c7 : Int} (hc : c5.natAbs < 2 ^ 30 ∧ c6.natAbs < 2 ^ 30 ∧ c7.natAbs < 2 ^ 30) {n : Nat} {u : Int} {st0 st : Store} (h : Pot n st0 st) (hn : n < 2 ^ 30) (hu : 0 < u) (hu2 : u < 2 ^ 1000) :
    ∃ (d : Int) (st' : Store), 0 ≤ d ∧ d < u ∧ Pot (n + 1) st0 st' ∧ takeB c5 c6 c7 [mref st0.length, .int u] st = .ok (.int d) st' := by
  obtain ⟨p0, p1, p2, rfl, h0, ⟨h1, h1'⟩, h2, h2'⟩ := h
  have hu' : u ≠ 0 := by omega
  by_cases q : 0 < p0
  · refine ⟨p0.fmod u, st0 ++ [some (potL (p0.fdiv u) p1 p2)], fmod_lo hu, fmod_hi hu, ⟨_, _, _, rfl, Int.fdiv_nonneg h0 (by omega), ⟨h1, h1'⟩, h2, by omega⟩, ?_⟩
    have e3 : u.natAbs < 2 ^ 8999 := Nat.lt_of_lt_of_le (show u.natAbs < 2 ^ 1000 by omega) (Nat.pow_le_pow_right (by decide) (by decide))
    simp [takeB, fnM, startL, sq, iff, tru, bin, var, cst, rd_pot, potL, q, asg, blt, consA, nilA, gMod_int hu', gDiv_int hu' e3, setS, getM_pot, L2.ixN, okD_int, set_pot, retS]
    exact take_all _ _
  · have q0 : p0 = 0 := by omega
    subst q0
    have lo4 : 0 ≤ (p2 + 1).fmod 4 := fmod_lo (by decide)
    have hi4 : (p2 + 1).fmod 4 < 4 := fmod_hi (by decide)
    obtain ⟨odd, ho1, ho2, e2⟩ : ∃ odd : Int, 0 < odd ∧ odd < 2 ^ 31 ∧ gIdx (.list [.int 2147483647, .int 2147483629, .int 2147483587, .int 2147483579]) (.int ((p2 + 1).fmod 4)) = some (.int odd) := by
      have : (p2 + 1).fmod 4 = 0 ∨ (p2 + 1).fmod 4 = 1 ∨ (p2 + 1).fmod 4 = 2 ∨ (p2 + 1).fmod 4 = 3 := by omega
      rcases this with e | e | e | e <;> rw [e]
      · exact ⟨_, by decide, by decide, rfl⟩
      · exact ⟨_, by decide, by decide, rfl⟩
      · exact ⟨_, by decide, by decide, rfl⟩
      · exact ⟨_, by decide, by decide, rfl⟩
    have hp : (p2 + 1).natAbs < 2 ^ 31 := by omega
    have b1 := natAbs_mul_lt hc.1 hp
    have b2 := natAbs_mul_lt b1 hp
    have b3 : (p1 + c5 * (p2 + 1) * (p2 + 1) + c6).natAbs < 2 ^ 93 := by omega
    have b5 := natAbs_mul_lt hc.2.2 hp
    have m1 : gMul (.int c5) (.int (p2 + 1)) = some (.int (c5 * (p2 + 1))) := gMul_int (small hc.1 (by decide)) (small hp (by decide))
    have m2 : gMul (.int (c5 * (p2 + 1))) (.int (p2 + 1)) = some (.int (c5 * (p2 + 1) * (p2 + 1))) := gMul_int (small b1 (by decide)) (small hp (by decide))
    have m3 : gPow (.int (p1 + c5 * (p2 + 1) * (p2 + 1) + c6)) (.int 3) = some (.int ((p1 + c5 * (p2 + 1) * (p2 + 1) + c6) ^ 3)) := gPow_int (j := 3) (by decide) (small b3 (by decide))
    have m4 : gMod (.int ((p1 + c5 * (p2 + 1) * (p2 + 1) + c6) ^ 3)) (.int odd) = some (.int (((p1 + c5 * (p2 + 1) * (p2 + 1) + c6) ^ 3).fmod odd)) := gMod_int (by omega)
    generalize hb : ((p1 + c5 * (p2 + 1) * (p2 + 1) + c6) ^ 3).fmod odd = blend at m4
    have b4 : blend.natAbs < 2 ^ 31 := by
      have l1 : 0 ≤ blend := by rw [← hb]; exact fmod_lo ho1
      have l2 : blend < odd := by rw [← hb]; exact fmod_hi ho1
      omega
    have m5 : gMod (.int blend) (.int 10007) = some (.int (blend.fmod 10007)) := gMod_int (by decide)
    have b6 : (blend.fmod 10007).natAbs < 2 ^ 14 := by
      have l1 : 0 ≤ blend.fmod 10007 := fmod_lo (by decide)
      have l2 : blend.fmod 10007 < 10007 := fmod_hi (by decide)
      omega
    have m6 : gMul (.int c7) (.int (p2 + 1)) = some (.int (c7 * (p2 + 1))) := gMul_int (small hc.2.2 (by decide)) (small hp (by decide))
    have b7 : (blend.fmod 10007 + c7 * (p2 + 1)).natAbs < 2 ^ 62 := by omega
    have m7 : gMul (.int blend) (.int (blend.fmod 10007 + c7 * (p2 + 1))) = some (.int (blend * (blend.fmod 10007 + c7 * (p2 + 1)))) := gMul_int (small b4 (by decide)) (small b7 (by decide))
    have m8 : gDiv (.int (blend * (blend.fmod 10007 + c7 * (p2 + 1)))) (.int 307) = some (.int ((blend * (blend.fmod 10007 + c7 * (p2 + 1))).fdiv 307)) := gDiv_int (by decide) (by decide)
    generalize (blend * (blend.fmod 10007 + c7 * (p2 + 1))).fdiv 307 = last at m8
    have m9 : gMod (.int last) (.int u) = some (.int (last.fmod u)) := gMod_int hu'
    have m0 : gMod (.int (p2 + 1)) (.int 4) = some (.int ((p2 + 1).fmod 4)) := gMod_int (by decide)
    refine ⟨last.fmod u, st0 ++ [some (potL 0 p1 (p2 + 1))], fmod_lo hu, fmod_hi hu, ⟨_, _, _, rfl, by omega, ⟨h1, h1'⟩, by omega, by omega⟩, ?_⟩
    generalize (p2 + 1).fmod 4 = r4 at *
    generalize blend.fmod 10007 = r5 at *
    generalize last.fmod u = r6 at *
    simp [takeB, fnM, startL, sq, iff, tru, bin, var, cst, rd_pot, potL, asg, blt, consA, nilA, setS, getM_pot, L2.ixN, okD_int, set_pot, retS, skp, lstE, e2, m0, m1, m2, m3, m4, m5, m6, m7, m8, m9]
    exact take_all _ _
/-- at k stands the pot of which at most n digits are taken -/
def PotAt (n k : Nat) (st : Store) : Prop := ∃ p0 p1 p2 : Int, st[k]? = some (some (potL p0 p1 p2)) ∧ 0 ≤ p0 ∧ (0 ≤ p1 ∧ p1 < 2 ^ 62) ∧ 0 ≤ p2 ∧ p2 ≤ n
theorem PotAt.mono {n m k : Nat} {st : Store} (h : PotAt n k st) (hm : n ≤ m) : PotAt m k st := by
  obtain ⟨a, b, c, h1, h2, h3, h4, h5⟩ := h
  exact ⟨a, b, c, h1, h2, h3, h4, by omega⟩
theorem PotAt.of {n k : Nat} {st st' : Store} (h : PotAt n k st) (e : st'[k]? = st[k]?) : PotAt n k st' := by
  obtain ⟨a, b, c, h1, h2⟩ := h
  exact ⟨a, b, c, e.trans h1, h2⟩
theorem Pot.at_ {n : Nat} {st0 st : Store} (h : Pot n st0 st) : PotAt n st0.length st := by
  obtain ⟨a, b, c, rfl, h2⟩ := h
  exact ⟨a, b, c, by rw [List.getElem?_append_right (Nat.le_refl _), Nat.sub_self]; rfl, h2⟩
theorem rd_at {st : Store} {k : Nat} {xs : List D} (h : st[k]? = some (some (.list xs))) : rd st (mref k) = .list xs := by
  show (match st[k]? with | some (some (.list xs)) => PyData.list xs | _ => mref k) = _
  rw [h]
theorem getM_k {st : Store} {k : Nat} {xs : List D} (h : st[k]? = some (some (.list xs))) : getM st (mref k) = some (k, xs) := by
  show (match st[k]? with | some (some (.list ds)) => some (k, ds) | _ => none) = _
  rw [h]
theorem rd_set {st : Store} {k : Nat} {xs : List D} (h : k < st.length) : rd (st.set k (some (.list xs))) (mref k) = .list xs := rd_at (List.getElem?_set_self h)
theorem take_set {st : Store} {k : Nat} {x : Option D} : List.take st.length (st.set k x) = st.set k x := List.take_of_length_le (by simp)
theorem take_at {c5 c6 c7 : Int} (hc : c5.natAbs < 2 ^ 30 ∧ c6.natAbs < 2 ^ 30 ∧ c7.natAbs < 2 ^ 30) {n k : Nat} {u : Int} {st : Store} (h : PotAt n k st) (hn : n < 2 ^ 30) (hu : 0 < u) (hu2 : u < 2 ^ 1000) :
    ∃ (d : Int) (p : D), 0 ≤ d ∧ d < u ∧ PotAt (n + 1) k (st.set k (some p)) ∧ takeB c5 c6 c7 [mref k, .int u] st = .ok (.int d) (st.set k (some p)) := by
  obtain ⟨p0, p1, p2, hk, h0, ⟨h1, h1'⟩, h2, h2'⟩ := h
  have hkl : k < st.length := (List.getElem?_eq_some_iff.mp hk).1
  have hr := rd_at hk
  have hm := getM_k hk
  have hu' : u ≠ 0 := by omega
  by_cases q : 0 < p0
  · refine ⟨p0.fmod u, potL (p0.fdiv u) p1 p2, fmod_lo hu, fmod_hi hu, ⟨_, _, _, List.getElem?_set_self hkl, Int.fdiv_nonneg h0 (by omega), ⟨h1, h1'⟩, h2, by omega⟩, ?_⟩
    have e3 : u.natAbs < 2 ^ 8999 := Nat.lt_of_lt_of_le (show u.natAbs < 2 ^ 1000 by omega) (Nat.pow_le_pow_right (by decide) (by decide))
    simp [takeB, fnM, startL, sq, iff, tru, bin, var, cst, hr, potL, q, asg, blt, consA, nilA, gMod_int hu', gDiv_int hu' e3, setS, hm, rd_set hkl, L2.ixN, okD_int,  retS]
    exact take_set
  · have q0 : p0 = 0 := by omega
    subst q0
    have lo4 : 0 ≤ (p2 + 1).fmod 4 := fmod_lo (by decide)
    have hi4 : (p2 + 1).fmod 4 < 4 := fmod_hi (by decide)
    obtain ⟨odd, ho1, ho2, e2⟩ : ∃ odd : Int, 0 < odd ∧ odd < 2 ^ 31 ∧ gIdx (.list [.int 2147483647, .int 2147483629, .int 2147483587, .int 2147483579]) (.int ((p2 + 1).fmod 4)) = some (.int odd) := by
      have : (p2 + 1).fmod 4 = 0 ∨ (p2 + 1).fmod 4 = 1 ∨ (p2 + 1).fmod 4 = 2 ∨ (p2 + 1).fmod 4 = 3 := by omega
      rcases this with e | e | e | e <;> rw [e]
      · exact ⟨_, by decide, by decide, rfl⟩
      · exact ⟨_, by decide, by decide, rfl⟩
      · exact ⟨_, by decide, by decide, rfl⟩
      · exact ⟨_, by decide, by decide, rfl⟩
    have hp : (p2 + 1).natAbs < 2 ^ 31 := by omega
    have b1 := natAbs_mul_lt hc.1 hp
    have b2 := natAbs_mul_lt b1 hp
    have b3 : (p1 + c5 * (p2 + 1) * (p2 + 1) + c6).natAbs < 2 ^ 93 := by omega
    have b5 := natAbs_mul_lt hc.2.2 hp
    have m1 : gMul (.int c5) (.int (p2 + 1)) = some (.int (c5 * (p2 + 1))) := gMul_int (small hc.1 (by decide)) (small hp (by decide))
    have m2 : gMul (.int (c5 * (p2 + 1))) (.int (p2 + 1)) = some (.int (c5 * (p2 + 1) * (p2 + 1))) := gMul_int (small b1 (by decide)) (small hp (by decide))
    have m3 : gPow (.int (p1 + c5 * (p2 + 1) * (p2 + 1) + c6)) (.int 3) = some (.int ((p1 + c5 * (p2 + 1) * (p2 + 1) + c6) ^ 3)) := gPow_int (j := 3) (by decide) (small b3 (by decide))
    have m4 : gMod (.int ((p1 + c5 * (p2 + 1) * (p2 + 1) + c6) ^ 3)) (.int odd) = some (.int (((p1 + c5 * (p2 + 1) * (p2 + 1) + c6) ^ 3).fmod odd)) := gMod_int (by omega)
    generalize hb : ((p1 + c5 * (p2 + 1) * (p2 + 1) + c6) ^ 3).fmod odd = blend at m4
    have b4 : blend.natAbs < 2 ^ 31 := by
      have l1 : 0 ≤ blend := by rw [← hb]; exact fmod_lo ho1
      have l2 : blend < odd := by rw [← hb]; exact fmod_hi ho1
      omega
    have m5 : gMod (.int blend) (.int 10007) = some (.int (blend.fmod 10007)) := gMod_int (by decide)
    have b6 : (blend.fmod 10007).natAbs < 2 ^ 14 := by
      have l1 : 0 ≤ blend.fmod 10007 := fmod_lo (by decide)
      have l2 : blend.fmod 10007 < 10007 := fmod_hi (by decide)
      omega
    have m6 : gMul (.int c7) (.int (p2 + 1)) = some (.int (c7 * (p2 + 1))) := gMul_int (small hc.2.2 (by decide)) (small hp (by decide))
    have b7 : (blend.fmod 10007 + c7 * (p2 + 1)).natAbs < 2 ^ 62 := by omega
    have m7 : gMul (.int blend) (.int (blend.fmod 10007 + c7 * (p2 + 1))) = some (.int (blend * (blend.fmod 10007 + c7 * (p2 + 1)))) := gMul_int (small b4 (by decide)) (small b7 (by decide))
    have m8 : gDiv (.int (blend * (blend.fmod 10007 + c7 * (p2 + 1)))) (.int 307) = some (.int ((blend * (blend.fmod 10007 + c7 * (p2 + 1))).fdiv 307)) := gDiv_int (by decide) (by decide)
    generalize (blend * (blend.fmod 10007 + c7 * (p2 + 1))).fdiv 307 = last at m8
    have m9 : gMod (.int last) (.int u) = some (.int (last.fmod u)) := gMod_int hu'
    have m0 : gMod (.int (p2 + 1)) (.int 4) = some (.int ((p2 + 1).fmod 4)) := gMod_int (by decide)
    refine ⟨last.fmod u, potL 0 p1 (p2 + 1), fmod_lo hu, fmod_hi hu, ⟨_, _, _, List.getElem?_set_self hkl, by omega, ⟨h1, h1'⟩, by omega, by omega⟩, ?_⟩
    generalize (p2 + 1).fmod 4 = r4 at *
    generalize blend.fmod 10007 = r5 at *
    generalize last.fmod u = r6 at *
    simp [takeB, fnM, startL, sq, iff, tru, bin, var, cst, hr, potL, asg, blt, consA, nilA, setS, hm, rd_set hkl, L2.ixN, okD_int,  retS, skp, lstE, e2, m0, m1, m2, m3, m4, m5, m6, m7, m8, m9]
    exact take_set
theorem pot_made {c0 c1 c2 c3 c4 : Int} (hc : c0.natAbs < 2 ^ 30 ∧ c2.natAbs < 2 ^ 30 ∧ c3.natAbs < 2 ^ 30) {ns : List Int} {i : Nat} (hi : i < ns.length ∨ (ns = [] ∧ i = 0)) (hi2 : i < 2 ^ 20) (st0 : Store) :
    ∃ st, Pot 0 st0 st ∧ potM c0 c1 c2 c3 c4 [.list (ns.map PyData.int), .int i] st0 = .ok (mref st0.length) st := by
  -- the cell
  obtain ⟨z, hz⟩ : ∃ z : Int, ifE (tru (bin gLt (var 1) (blt bLen (consA (var 0) nilA)))) (bin gIdx (var 0) (var 1)) (bin gAdd (bin gAdd (bin gMod (blt bInt (consA (blt bSum (consA (slc (var 0) noP (someP (cst (.int 1)))) nilA)) nilA)) (cst (.int 1000003))) (bin gMul (cst (.int c0)) (var 1))) (cst (.int c1)))
      [some (.list (ns.map PyData.int)), some (.int i), none, none, none] st0 = .ok (.int z) st0 := by
    rcases hi with h | ⟨rfl, rfl⟩
    · have e : gIdx (.list (ns.map PyData.int)) (.int i) = some (.int ns[i]) := gIdx_list (by simp [h])
      exact ⟨ns[i], by simp [ifE, tru, bin, var, blt, consA, nilA, bLen, h, e]⟩
    · have m1 : gMul (.int c0) (.int 0) = some (.int (c0 * 0)) := gMul_int (small hc.1 (by decide)) (small (n := 1) (by decide) (by decide))
      have m2 : gMod (.int 0) (.int 1000003) = some (.int (Int.fmod 0 1000003)) := gMod_int (by decide)
      exact ⟨_, by simp [ifE, tru, bin, var, blt, consA, nilA, bLen, cst, slc, noP, someP, gSlc, cutD, bSum, asInts, m1, m2]; rfl⟩
  have big300 : ((10 ^ 60) ^ 5 : Int) = 10 ^ 300 := by decide
  have w1 : gPow (.int 10) (.int 60) = some (.int (10 ^ 60)) := gPow_int (j := 60) (by decide) (small (n := 5) (by decide) (by decide))
  have w2 : gPow (.int (10 ^ 60)) (.int 5) = some (.int ((10 ^ 60) ^ 5)) := gPow_int (j := 5) (by decide) (small (n := 250) (by decide) (by decide))
  have w3 : gPow (.int 10) (.int 18) = some (.int (10 ^ 18)) := gPow_int (j := 18) (by decide) (small (n := 5) (by decide) (by decide))
  have w4 : gMod (.int (z.natAbs : Int)) (.int ((10 ^ 60) ^ 5)) = some (.int ((z.natAbs : Int).fmod ((10 ^ 60) ^ 5))) := gMod_int (by decide)
  have l1 : 0 ≤ (z.natAbs : Int).fmod ((10 ^ 60) ^ 5) := fmod_lo (by decide)
  have l2 : (z.natAbs : Int).fmod ((10 ^ 60) ^ 5) < (10 ^ 60) ^ 5 := fmod_hi (by decide)
  have l3 : ((z.natAbs : Int).fmod ((10 ^ 60) ^ 5)).natAbs < 2 ^ 1000 := by
    have : ((10 ^ 60) ^ 5 : Int) < 2 ^ 1000 := by decide
    omega
  generalize (z.natAbs : Int).fmod ((10 ^ 60) ^ 5) = own at *
  have w5 : gMod (.int z) (.int 2305843009213693951) = some (.int (z.fmod 2305843009213693951)) := gMod_int (by decide)
  have s1 : 0 ≤ z.fmod 2305843009213693951 := fmod_lo (by decide)
  have s2 : z.fmod 2305843009213693951 < 2305843009213693951 := fmod_hi (by decide)
  generalize z.fmod 2305843009213693951 = sm at *
  have w6 : ∀ b : Bool, gMul (.int own) (.int (if b then 1 else 0)) = some (.int (own * (if b then 1 else 0))) := fun b => gMul_int (small l3 (by decide)) (small (n := 2) (by cases b <;> decide) (by decide))
  have t0 : ((i : Int)).natAbs < 2 ^ 20 := by omega
  have t1 := natAbs_mul_lt hc.2.2 t0
  have w7 : gMul (.int sm) (.int c2) = some (.int (sm * c2)) := gMul_int (small (n := 62) (by omega) (by decide)) (small hc.2.1 (by decide))
  have w8 : gMul (.int c3) (.int (i : Int)) = some (.int (c3 * i)) := gMul_int (small hc.2.2 (by decide)) (small t0 (by decide))
  have w9 : gMul (.int (c3 * i)) (.int (i : Int)) = some (.int (c3 * i * i)) := gMul_int (small t1 (by decide)) (small t0 (by decide))
  have w10 : gMod (.int (sm * c2 + c3 * i * i + c4)) (.int 2305843009213693921) = some (.int ((sm * c2 + c3 * i * i + c4).fmod 2305843009213693921)) := gMod_int (by decide)
  have v1 : 0 ≤ (sm * c2 + c3 * i * i + c4).fmod 2305843009213693921 := fmod_lo (by decide)
  have v2 : (sm * c2 + c3 * i * i + c4).fmod 2305843009213693921 < 2305843009213693921 := fmod_hi (by decide)
  generalize (sm * c2 + c3 * i * i + c4).fmod 2305843009213693921 = p1 at *
  refine ⟨st0 ++ [some (potL (own * (if decide (10 ^ 18 ≤ (z.natAbs : Int)) then 1 else 0)) p1 0)], ⟨_, _, _, rfl, ?_, ⟨v1, by omega⟩, by omega, by omega⟩, ?_⟩
  · split <;> omega
  · unfold potM fnM
    simp only [startL, List.map_cons, List.map_nil, List.length_cons, List.length_nil, List.replicate, List.cons_append, List.nil_append, sq, asg, hz, bind_run, List.set]
    have g1 : gGe (.int (z.natAbs : Int)) (.int (10 ^ 18)) = some (.bool (decide (10 ^ 18 ≤ (z.natAbs : Int)))) := rfl
    have w6' := w6 (decide (10 ^ 18 ≤ (z.natAbs : Int)))
    generalize decide (10 ^ 18 ≤ (z.natAbs : Int)) = bb at *
    have ob : ([.int (own * (if bb then 1 else 0)), .int p1, .int 0] : List D).all (okD 40) = true := by simp [okD]
    simp only [bin, blt, consA, nilA, var, cst, mutE, retS, sq, bind_run, List.getElem?_cons_zero, List.getElem?_cons_succ, rd_int, rd_bool, List.map_cons, List.map_nil, bAbs_int, bInt_int, bInt_bool, ofOpt_some, w1, w2, w3, w4, w5, w6', w7, w8, w9, w10, g1, gAdd_int, List.set, List.length_cons, List.length_nil, ob]
    simp only [retM, mref, potL]
    simp
end MP

set_option Elab.async false
set_option linter.all false
set_option maxRecDepth 100000
set_option maxHeartbeats 4000000
set_option exponentiation.threshold 100000
/-! MpBino: ways to choose. Own work. -/
namespace MP
open PySem
def ch : Nat → Nat → Nat
  | _, 0 => 1
  | 0, _ + 1 => 0
  | n + 1, k + 1 => ch n k + ch n (k + 1)
theorem ch_zero (n : Nat) : ch n 0 = 1 := by cases n <;> rfl
theorem ch_out : ∀ (n k : Nat), n < k → ch n k = 0
  | n, 0, h => absurd h (Nat.not_lt_zero _)
  | 0, k + 1, _ => rfl
  | n + 1, k + 1, h => by show ch n k + ch n (k + 1) = 0; rw [ch_out n k (by omega), ch_out n (k + 1) (by omega)]
theorem ch_self : ∀ n : Nat, ch n n = 1
  | 0 => rfl
  | n + 1 => by show ch n n + ch n (n + 1) = 1; rw [ch_self n, ch_out n (n + 1) (by omega)]
theorem ch_step : ∀ (n k : Nat), ch n (k + 1) * (k + 1) = ch n k * (n - k)
  | 0, k => by cases k with
    | zero => rfl
    | succ k => show 0 * _ = 0 * _; simp
  | n + 1, 0 => by
    have h : ch n 1 = n := by simpa [ch_zero] using ch_step n 0
    show (ch n 0 + ch n 1) * 1 = ch (n + 1) 0 * (n + 1)
    rw [ch_zero, ch_zero, h]; omega
  | n + 1, j + 1 => by
    have h1 := ch_step n (j + 1)
    have h2 := ch_step n j
    show (ch n (j + 1) + ch n (j + 2)) * (j + 2) = (ch n j + ch n (j + 1)) * (n + 1 - (j + 1))
    rw [Nat.add_mul, h1, Nat.add_mul, show n + 1 - (j + 1) = n - j by omega]
    by_cases q : j + 1 ≤ n
    · have : n - j = (n - (j + 1)) + 1 := by omega
      rw [this] at h2 ⊢
      rw [← h2]
      generalize ch n (j + 1) = A
      generalize n - (j + 1) = d
      simp only [Nat.mul_add, Nat.mul_one]
      omega
    · rw [ch_out n (j + 1) (by omega)]
      have : n - j = 0 := by omega
      simp [this]
theorem ch_le : ∀ (n k : Nat), ch n k ≤ 2 ^ n
  | n, 0 => by rw [ch_zero]; exact Nat.one_le_two_pow
  | 0, k + 1 => Nat.zero_le _
  | n + 1, k + 1 => by
    show ch n k + ch n (k + 1) ≤ _
    have a := ch_le n k
    have b := ch_le n (k + 1)
    rw [Nat.pow_succ]; omega
theorem ch_pos : ∀ (n k : Nat), k ≤ n → 0 < ch n k
  | n, 0, _ => by rw [ch_zero]; decide
  | 0, k + 1, h => by omega
  | n + 1, k + 1, h => by
    show 0 < ch n k + ch n (k + 1)
    have := ch_pos n k (by omega)
    omega
def IsCh (m : Fn) : Prop := ∀ (n k : Nat) (st : Store), k ≤ n → n ≤ 200 → m [.int n, .int k] st = .ok (.int (ch n k : Nat)) st
abbrev chBody : MS := asg 2 (bin gDiv (bin gMul (var 2) (bin gSub (var 0) (var 3))) (bin gAdd (var 3) (cst (.int 1))))
theorem ch_laps {n k : Nat} (hk : k ≤ n) (hn : n ≤ 200) (st : Store) : ∀ (m t : Nat) (x : Option D), t + m = k → ∃ y, forL (.nm 3) chBody ((List.range' t m).map fun i => PyData.int (i : Nat)) [some (.int n), some (.int k), some (.int (ch n t : Nat)), x] st = .ok (.nx [some (.int n), some (.int k), some (.int (ch n k : Nat)), y]) st
  | 0, t, x, h => ⟨x, by rw [show t = k by omega]; rfl⟩
  | m + 1, t, x, h => by
    obtain ⟨y, ih⟩ := ch_laps hk hn st m (t + 1) (some (.int t)) (by omega)
    refine ⟨y, ?_⟩
    have le := ch_le n t
    have l2 : 2 ^ n ≤ 2 ^ 200 := Nat.pow_le_pow_right (by decide) hn
    have m1 : gMul (.int (ch n t : Nat)) (.int ((n : Int) - (t : Int))) = some (.int ((ch n (t + 1) * (t + 1) : Nat) : Int)) := by
      rw [gMul_int (small (n := 201) (by rw [Int.natAbs_natCast]; omega) (by decide)) (small (n := 9) (by omega) (by decide)), ch_step]
      rw [Int.natCast_mul, Int.natCast_sub (by omega)]
    have d1 : gDiv (.int ((ch n (t + 1) * (t + 1) : Nat) : Int)) (.int ((t : Int) + 1)) = some (.int (ch n (t + 1) : Nat)) := by
      rw [gDiv_int (by omega) (Nat.lt_of_lt_of_le (show ((t : Int) + 1).natAbs < 2 ^ 10 by omega) (Nat.pow_le_pow_right (by decide) (by decide)))]
      rw [Int.natCast_mul, show ((t + 1 : Nat) : Int) = (t : Int) + 1 by omega, Int.mul_fdiv_cancel _ (by omega)]
    rw [List.range'_succ, List.map_cons]
    unfold forL
    simp only [tgSet, chBody, asg, bin, var, cst, bind_run, List.set, List.getElem?_cons_zero, List.getElem?_cons_succ, rd_int, gSub_int, gAdd_int, ofOpt_some, m1, d1]
    exact ih
theorem isCh : IsCh (fnM false 4 (sq (asg 2 (cst (.int 1))) (sq (forS (.nm 3) (iterR1 (consA (var 1) nilA)) chBody) (retS (var 2))))) := fun n k st hk hn => by
  obtain ⟨y, h⟩ := ch_laps hk hn st k 0 none (by omega)
  rw [ch_zero] at h
  have it : iterR1 (consA (var 1) nilA) [some (.int n), some (.int k), some (.int 1), none] st = .ok ((List.range' 0 k).map fun i => PyData.int (i : Nat)) st := by
    have c : ((k : Int) ≤ 16777216 ∧ -16777216 ≤ (k : Int)) := ⟨by omega, by omega⟩
    simp only [iterR1, consA, nilA, var, bind_run, List.getElem?_cons_zero, List.getElem?_cons_succ, if_pos c, rng_nat, List.range_eq_range']
  have h' : forL (.nm 3) chBody ((List.range' 0 k).map fun i => PyData.int (i : Nat)) [some (.int n), some (.int k), some (.int 1), none] st = .ok (.nx [some (.int n), some (.int k), some (.int (ch n k : Nat)), y]) st := h
  simp [fnM, startL, sq, asg, cst, forS, it, h', retS, var]
/-! ### parts of lists -/
theorem cut_from {α : Type} (xs : List α) (n : Nat) : cutD xs (some (n : Int)) none = xs.drop n := by
  unfold cutD
  rw [HT.sIx_none, HT.sIx_nat]
  by_cases h : n ≤ xs.length
  · rw [Nat.min_eq_left h]
    exact List.take_of_length_le (by simp)
  · rw [Nat.min_eq_right (by omega), List.drop_eq_nil_of_le (Nat.le_refl _), List.drop_eq_nil_of_le (by omega)]
    simp
theorem cut_to {α : Type} (xs : List α) (n : Nat) : cutD xs none (some (n : Int)) = xs.take n := by
  unfold cutD
  rw [HT.sIx_none, HT.sIx_nat, Nat.sub_zero, List.drop_zero]
  by_cases h : n ≤ xs.length
  · rw [Nat.min_eq_left h]
  · rw [Nat.min_eq_right (by omega), List.take_of_length_le (Nat.le_refl _), List.take_of_length_le (by omega)]
/-- a comprehension whose target is of any kind -/
theorem lcL_runG {α : Type} {g : Tg} {t : MT} {e : ME} {ls : Ls} {st : Store} (f h : α → D) (L : α → Ls) (p : α → Bool) : ∀ (xs : List α), xs.length ≤ 16777216 →
    (∀ x ∈ xs, tgSet g (f x) ls = some (L x) ∧ t (L x) st = .ok (p x) st ∧ (p x = true → e (L x) st = .ok (h x) st)) → lcL g t e ls (xs.map f) st = .ok ((xs.filter p).map h) st
  | [], _, _ => rfl
  | x :: xs, hl, hx => by
    rw [List.length_cons] at hl
    have ih := lcL_runG (g := g) (t := t) (e := e) (ls := ls) (st := st) f h L p xs (by omega) fun y hy => hx y (List.mem_cons_of_mem _ hy)
    obtain ⟨h0, h1, h2⟩ := hx x List.mem_cons_self
    rw [List.map_cons]
    unfold lcL
    simp only [h0, h1, bind_run]
    by_cases q : p x = true
    · rw [if_pos q, h2 q]
      have le : ((xs.filter p).map h).length < 16777216 := by
        rw [List.length_map]
        exact Nat.lt_of_le_of_lt (List.length_filter_le _ _) (by omega)
      simp only [bind_run, ih, if_pos le, List.filter_cons_of_pos q, List.map_cons]
    · rw [if_neg q, ih, List.filter_cons_of_neg q]
theorem lc_allG {α : Type} {vs : List Nat} {g : Tg} {it : MI} {e : ME} {ls : Ls} {st st1 : Store} (xs : List α) (f h : α → D) (L : α → Ls) (hit : it ls st = .ok (xs.map f) st1) (hl : xs.length ≤ 16777216)
    (hx : ∀ x ∈ xs, tgSet g (f x) (wipeL ls vs) = some (L x) ∧ e (L x) st1 = .ok (h x) st1) : lc vs g it yesT e ls st = .ok (.list (xs.map h)) st1 := by
  unfold lc
  have := lcL_runG (g := g) (t := yesT) (e := e) (ls := wipeL ls vs) (st := st1) f h L (fun _ => true) xs hl fun x hx' => ⟨(hx x hx').1, rfl, fun _ => (hx x hx').2⟩
  rw [hit, bind_run, this, bind_run, List.filter_eq_self.mpr (fun _ _ => rfl)]
theorem zipD_map {α β : Type} (f : α → D) (g : β → D) : ∀ (xs : List α) (ys : List β), zipD (xs.map f) (ys.map g) = (List.zip xs ys).map fun p => PyData.tuple [f p.1, g p.2]
  | [], _ => by simp [zipD]
  | _ :: _, [] => by simp [zipD]
  | x :: xs, y :: ys => by
    show PyData.tuple [f x, g y] :: zipD (xs.map f) (ys.map g) = _
    rw [zipD_map f g xs ys, List.zip_cons_cons, List.map_cons]
/-! ### Pascal's rows -/
def rowN (n : Nat) : List Nat := (List.range' 0 (n + 1)).map fun k => ch n k
def row (n : Nat) : List D := (rowN n).map fun k => PyData.int (k : Nat)
theorem rowN_get (n k : Nat) (h : k ≤ n) : (rowN n)[k]? = some (ch n k) := by
  unfold rowN
  rw [List.getElem?_map, List.getElem?_range' (by omega)]
  simp
theorem rowN_len (n : Nat) : (rowN n).length = n + 1 := by simp [rowN]
theorem row_next (n : Nat) : rowN (n + 1) = [1] ++ (List.zip (rowN n) ((rowN n).drop 1)).map (fun p => p.1 + p.2) ++ [1] := by
  refine List.ext_getElem? fun i => ?_
  by_cases h0 : i = 0
  · subst h0
    rw [rowN_get _ _ (by omega), ch_zero]; rfl
  · by_cases h1 : i ≤ n + 1
    · rw [rowN_get _ _ h1, List.append_assoc, List.getElem?_append_right (by simp; omega)]
      simp only [List.length_cons, List.length_nil, Nat.zero_add]
      have lz : ((List.zip (rowN n) ((rowN n).drop 1)).map (fun p => p.1 + p.2)).length = n := by simp [rowN_len]
      by_cases h2 : i - 1 < n
      · have hz : (List.zip (rowN n) ((rowN n).drop 1))[i - 1]? = some (ch n (i - 1), ch n (1 + (i - 1))) := List.getElem?_zip_eq_some.mpr ⟨rowN_get n (i - 1) (by omega), by rw [List.getElem?_drop]; exact rowN_get n (1 + (i - 1)) (by omega)⟩
        rw [List.getElem?_append_left (by rw [lz]; exact h2), List.getElem?_map, hz]
        obtain ⟨j, rfl⟩ : ∃ j, i = j + 1 := ⟨i - 1, by omega⟩
        simp only [Nat.add_sub_cancel, Option.map_some]
        rw [Nat.add_comm 1 j]; rfl
      · rw [List.getElem?_append_right (by rw [lz]; omega), lz]
        have : i = n + 1 := by omega
        subst this
        rw [ch_self]; simp
    · rw [List.getElem?_eq_none (by rw [rowN_len]; omega), List.getElem?_eq_none (by simp [rowN_len]; omega)]
abbrev rowBody : MS := asg 2 (bin gAdd (bin gAdd (lstE (consA (cst (.int 1)) nilA)) (lc [4, 5] (.tp (.cons (.nm 4) (.cons (.nm 5) .nil))) (iterZ (consA (var 2) (consA (slc (var 2) (someP (cst (.int 1))) noP) nilA))) yesT (bin gAdd (var 4) (var 5)))) (lstE (consA (cst (.int 1)) nilA)))
theorem row_laps {n k : Nat} (hn : n ≤ 200) (st : Store) : ∀ (m t : Nat) (x : Option D), t + m = n → ∃ y, forL (.nm 3) rowBody ((List.range' t m).map fun i => PyData.int (i : Nat)) [some (.int n), some (.int k), some (.list (row t)), x, none, none] st = .ok (.nx [some (.int n), some (.int k), some (.list (row n)), y, none, none]) st
  | 0, t, x, h => ⟨x, by rw [show t = n by omega]; rfl⟩
  | m + 1, t, x, h => by
    obtain ⟨y, ih⟩ := row_laps hn st m (t + 1) (some (.int t)) (by omega)
    refine ⟨y, ?_⟩
    have it : iterZ (consA (var 2) (consA (slc (var 2) (someP (cst (.int 1))) noP) nilA)) [some (.int n), some (.int k), some (.list (row t)), some (.int t), none, none] st
        = .ok ((List.zip (rowN t) ((rowN t).drop 1)).map fun p => PyData.tuple [PyData.int (p.1 : Nat), PyData.int (p.2 : Nat)]) st := by
      have e : cutD (row t) (some 1) none = ((rowN t).drop 1).map fun k => PyData.int (k : Nat) := by
        have := cut_from (row t) 1
        rw [show ((1 : Nat) : Int) = 1 from rfl] at this
        rw [this, row, List.map_drop]
      simp only [iterZ, consA, nilA, slc, someP, noP, var, cst, bind_run, List.getElem?_cons_zero, List.getElem?_cons_succ, rd_lst, gSlc, e, ofOpt_some]
      rw [row, zipD_map]
    have hlc := lc_allG (vs := [4, 5]) (g := .tp (.cons (.nm 4) (.cons (.nm 5) .nil))) (e := bin gAdd (var 4) (var 5)) (List.zip (rowN t) ((rowN t).drop 1)) (fun p => PyData.tuple [PyData.int (p.1 : Nat), PyData.int (p.2 : Nat)]) (fun p => PyData.int ((p.1 + p.2 : Nat) : Int))
      (fun p => [some (.int n), some (.int k), some (.list (row t)), some (.int t), some (.int (p.1 : Nat)), some (.int (p.2 : Nat))]) it (by simp [rowN_len]; omega) fun p _ => ⟨rfl, by
        simp only [bin, var, bind_run, List.getElem?_cons_zero, List.getElem?_cons_succ, rd_int, gAdd_int, ofOpt_some, Int.natCast_add]⟩
    have e1 : row (t + 1) = [PyData.int 1] ++ ((List.zip (rowN t) ((rowN t).drop 1)).map fun p => PyData.int ((p.1 + p.2 : Nat) : Int)) ++ [PyData.int 1] := by
      rw [row, row_next, List.map_append, List.map_append, List.map_map]; rfl
    have l1 : ((List.zip (rowN t) ((rowN t).drop 1)).map fun p => PyData.int ((p.1 + p.2 : Nat) : Int)).length = t := by simp [rowN_len]
    generalize ((List.zip (rowN t) ((rowN t).drop 1)).map fun p => PyData.int ((p.1 + p.2 : Nat) : Int)) = mid at *
    have g1 : gAdd (.list [.int 1]) (.list mid) = some (.list ([.int 1] ++ mid)) := if_pos (by simp [l1]; omega)
    have g2 : gAdd (.list ([.int 1] ++ mid)) (.list [.int 1]) = some (.list ([.int 1] ++ mid ++ [.int 1])) := if_pos (by simp [l1]; omega)
    rw [List.range'_succ, List.map_cons]
    unfold forL
    have le1 : (1 : Nat) ≤ 16777216 := by decide
    simp only [tgSet, rowBody, asg, bin, lstE, consA, nilA, cst, bind_run, List.set, List.length_cons, List.length_nil, Nat.zero_add, if_pos le1, hlc, rd_lst, g1, g2, ofOpt_some]
    rw [← e1]
    exact ih
theorem isCh2 : IsCh (fnM false 6 (sq (asg 2 (lstE (consA (cst (.int 1)) nilA))) (sq (forS (.nm 3) (iterR1 (consA (var 0) nilA)) rowBody) (retS (bin gIdx (var 2) (var 1)))))) := fun n k st hk hn => by
  obtain ⟨y, h⟩ := row_laps (k := k) hn st n 0 none (by omega)
  have it : iterR1 (consA (var 0) nilA) [some (.int n), some (.int k), some (.list [.int 1]), none, none, none] st = .ok ((List.range' 0 n).map fun i => PyData.int (i : Nat)) st := by
    have c : ((n : Int) ≤ 16777216 ∧ -16777216 ≤ (n : Int)) := ⟨by omega, by omega⟩
    simp only [iterR1, consA, nilA, var, bind_run, List.getElem?_cons_zero, List.getElem?_cons_succ, if_pos c, rng_nat, List.range_eq_range']
  have h' : forL (.nm 3) rowBody ((List.range' 0 n).map fun i => PyData.int (i : Nat)) [some (.int n), some (.int k), some (.list [.int 1]), none, none, none] st = .ok (.nx [some (.int n), some (.int k), some (.list (row n)), y, none, none]) st := h
  have ix : gIdx (.list (row n)) (.int (k : Int)) = some (.int (ch n k : Nat)) := gIdx_list (by rw [row, List.getElem?_map, rowN_get n k hk]; rfl)
  simp [fnM, startL, sq, asg, lstE, consA, nilA, cst, forS, it, h', retS, var, bin, ix]
end MP

set_option Elab.async false
set_option linter.all false
set_option maxRecDepth 100000
set_option maxHeartbeats 4000000
/-! MP.K69: printed by gen.py. -/
namespace MP.K69
open PySem PySem.Spec PyProof.Rows L2 MP
def top (i : Nat) : Stmt := PySem.Challenge.pw_nobodyknowswhich_k69_whole_margins_by_al.main.body.getD i (.Pass ⟨0, 0, 0, 0⟩)
abbrev s_is_integer : Stmt := top 6
abbrev s_is_between : Stmt := top 7
abbrev s_are_between : Stmt := top 8
abbrev s_is_tuple_of : Stmt := top 9
abbrev s_common : Stmt := top 10
abbrev s_part : Stmt := top 11
abbrev s_is_fraction : Stmt := top 12
abbrev s_minus : Stmt := top 13
abbrev s_through : Stmt := top 14
abbrev s_is_less : Stmt := top 15
abbrev s_choose : Stmt := top 18
abbrev s_is_table_of : Stmt := top 19
abbrev s_is_table : Stmt := top 20
abbrev s_are_margins_of : Stmt := top 21
abbrev s_are_margins : Stmt := top 22
abbrev s_check_table : Stmt := top 23
abbrev s_check_margins : Stmt := top 24
abbrev s_margins_by : Stmt := top 25
abbrev s_margins_of : Stmt := top 26
abbrev s_tables_by : Stmt := top 27
abbrev s_tables_of : Stmt := top 28
abbrev s_ways_by : Stmt := top 29
abbrev s_ways_of : Stmt := top 30
abbrev s_part_of : Stmt := top 31
abbrev s_chance_of : Stmt := top 32
abbrev s_alike_by : Stmt := top 33
abbrev s_alike_of : Stmt := top 34
abbrev s_kappa_of : Stmt := top 35
abbrev s_alike_between : Stmt := top 36
abbrev s_share_above_by : Stmt := top 37
abbrev s_share_above : Stmt := top 38
abbrev s_share_below : Stmt := top 39
abbrev s_share_apart : Stmt := top 40
abbrev s_needed : Stmt := top 41
abbrev s__law_pot : Stmt := top 43
abbrev s__law_take : Stmt := top 44
abbrev s__law_cells : Stmt := top 46
abbrev s__law_part : Stmt := top 47
abbrev s__law_plus : Stmt := top 48
abbrev s__law_sum : Stmt := top 50
abbrev s__law_less : Stmt := top 51
abbrev s__law_choose : Stmt := top 52
abbrev s__law_lots : Stmt := top 53
abbrev s__law_kappa : Stmt := top 54
abbrev s__law_is_share_fair : Stmt := top 55
abbrev s__law_are_ways_right : Stmt := top 56
abbrev s__law_is_great_right : Stmt := top 57
abbrev s_law : Stmt := top 58
theorem n_MOST_THINGS : NmOk "MOST_THINGS" := ⟨by decide +kernel, by decide +kernel, by decide +kernel⟩
theorem n__law_are_ways_right : NmOk "_law_are_ways_right" := ⟨by decide +kernel, by decide +kernel, by decide +kernel⟩
theorem n__law_cells : NmOk "_law_cells" := ⟨by decide +kernel, by decide +kernel, by decide +kernel⟩
theorem n__law_choose : NmOk "_law_choose" := ⟨by decide +kernel, by decide +kernel, by decide +kernel⟩
theorem n__law_is_great_right : NmOk "_law_is_great_right" := ⟨by decide +kernel, by decide +kernel, by decide +kernel⟩
theorem n__law_is_share_fair : NmOk "_law_is_share_fair" := ⟨by decide +kernel, by decide +kernel, by decide +kernel⟩
theorem n__law_kappa : NmOk "_law_kappa" := ⟨by decide +kernel, by decide +kernel, by decide +kernel⟩
theorem n__law_less : NmOk "_law_less" := ⟨by decide +kernel, by decide +kernel, by decide +kernel⟩
theorem n__law_lots : NmOk "_law_lots" := ⟨by decide +kernel, by decide +kernel, by decide +kernel⟩
theorem n__law_part : NmOk "_law_part" := ⟨by decide +kernel, by decide +kernel, by decide +kernel⟩
theorem n__law_plus : NmOk "_law_plus" := ⟨by decide +kernel, by decide +kernel, by decide +kernel⟩
theorem n__law_pot : NmOk "_law_pot" := ⟨by decide +kernel, by decide +kernel, by decide +kernel⟩
theorem n__law_sum : NmOk "_law_sum" := ⟨by decide +kernel, by decide +kernel, by decide +kernel⟩
theorem n__law_take : NmOk "_law_take" := ⟨by decide +kernel, by decide +kernel, by decide +kernel⟩
theorem n_above : NmOk "above" := ⟨by decide +kernel, by decide +kernel, by decide +kernel⟩
theorem n_abs : NmOk "abs" := ⟨by decide +kernel, by decide +kernel, by decide +kernel⟩
theorem n_alike : NmOk "alike" := ⟨by decide +kernel, by decide +kernel, by decide +kernel⟩
theorem n_alike_between : NmOk "alike_between" := ⟨by decide +kernel, by decide +kernel, by decide +kernel⟩
theorem n_alike_by : NmOk "alike_by" := ⟨by decide +kernel, by decide +kernel, by decide +kernel⟩
theorem n_alike_of : NmOk "alike_of" := ⟨by decide +kernel, by decide +kernel, by decide +kernel⟩
theorem n_all : NmOk "all" := ⟨by decide +kernel, by decide +kernel, by decide +kernel⟩
theorem n_apart : NmOk "apart" := ⟨by decide +kernel, by decide +kernel, by decide +kernel⟩
theorem n_are_between : NmOk "are_between" := ⟨by decide +kernel, by decide +kernel, by decide +kernel⟩
theorem n_are_margins : NmOk "are_margins" := ⟨by decide +kernel, by decide +kernel, by decide +kernel⟩
theorem n_are_margins_of : NmOk "are_margins_of" := ⟨by decide +kernel, by decide +kernel, by decide +kernel⟩
theorem n_at : NmOk "at" := ⟨by decide +kernel, by decide +kernel, by decide +kernel⟩
theorem n_below : NmOk "below" := ⟨by decide +kernel, by decide +kernel, by decide +kernel⟩
theorem n_blend : NmOk "blend" := ⟨by decide +kernel, by decide +kernel, by decide +kernel⟩
theorem n_bool : NmOk "bool" := ⟨by decide +kernel, by decide +kernel, by decide +kernel⟩
theorem n_both : NmOk "both" := ⟨by decide +kernel, by decide +kernel, by decide +kernel⟩
theorem n_cell : NmOk "cell" := ⟨by decide +kernel, by decide +kernel, by decide +kernel⟩
theorem n_chance_of : NmOk "chance_of" := ⟨by decide +kernel, by decide +kernel, by decide +kernel⟩
theorem n_check_margins : NmOk "check_margins" := ⟨by decide +kernel, by decide +kernel, by decide +kernel⟩
theorem n_check_table : NmOk "check_table" := ⟨by decide +kernel, by decide +kernel, by decide +kernel⟩
theorem n_choose : NmOk "choose" := ⟨by decide +kernel, by decide +kernel, by decide +kernel⟩
theorem n_common : NmOk "common" := ⟨by decide +kernel, by decide +kernel, by decide +kernel⟩
theorem n_digit : NmOk "digit" := ⟨by decide +kernel, by decide +kernel, by decide +kernel⟩
theorem n_due : NmOk "due" := ⟨by decide +kernel, by decide +kernel, by decide +kernel⟩
theorem n_every : NmOk "every" := ⟨by decide +kernel, by decide +kernel, by decide +kernel⟩
theorem n_first : NmOk "first" := ⟨by decide +kernel, by decide +kernel, by decide +kernel⟩
theorem n_found : NmOk "found" := ⟨by decide +kernel, by decide +kernel, by decide +kernel⟩
theorem n_high : NmOk "high" := ⟨by decide +kernel, by decide +kernel, by decide +kernel⟩
theorem n_int : NmOk "int" := ⟨by decide +kernel, by decide +kernel, by decide +kernel⟩
theorem n_is_between : NmOk "is_between" := ⟨by decide +kernel, by decide +kernel, by decide +kernel⟩
theorem n_is_fraction : NmOk "is_fraction" := ⟨by decide +kernel, by decide +kernel, by decide +kernel⟩
theorem n_is_integer : NmOk "is_integer" := ⟨by decide +kernel, by decide +kernel, by decide +kernel⟩
theorem n_is_less : NmOk "is_less" := ⟨by decide +kernel, by decide +kernel, by decide +kernel⟩
theorem n_is_table : NmOk "is_table" := ⟨by decide +kernel, by decide +kernel, by decide +kernel⟩
theorem n_is_table_of : NmOk "is_table_of" := ⟨by decide +kernel, by decide +kernel, by decide +kernel⟩
theorem n_is_tuple_of : NmOk "is_tuple_of" := ⟨by decide +kernel, by decide +kernel, by decide +kernel⟩
theorem n_isinstance : NmOk "isinstance" := ⟨by decide +kernel, by decide +kernel, by decide +kernel⟩
theorem n_kappa_of : NmOk "kappa_of" := ⟨by decide +kernel, by decide +kernel, by decide +kernel⟩
theorem n_lap : NmOk "lap" := ⟨by decide +kernel, by decide +kernel, by decide +kernel⟩
theorem n_len : NmOk "len" := ⟨by decide +kernel, by decide +kernel, by decide +kernel⟩
theorem n_level : NmOk "level" := ⟨by decide +kernel, by decide +kernel, by decide +kernel⟩
theorem n_limit : NmOk "limit" := ⟨by decide +kernel, by decide +kernel, by decide +kernel⟩
theorem n_list : NmOk "list" := ⟨by decide +kernel, by decide +kernel, by decide +kernel⟩
theorem n_lot : NmOk "lot" := ⟨by decide +kernel, by decide +kernel, by decide +kernel⟩
theorem n_low : NmOk "low" := ⟨by decide +kernel, by decide +kernel, by decide +kernel⟩
theorem n_many : NmOk "many" := ⟨by decide +kernel, by decide +kernel, by decide +kernel⟩
theorem n_margins : NmOk "margins" := ⟨by decide +kernel, by decide +kernel, by decide +kernel⟩
theorem n_margins_by : NmOk "margins_by" := ⟨by decide +kernel, by decide +kernel, by decide +kernel⟩
theorem n_margins_of : NmOk "margins_of" := ⟨by decide +kernel, by decide +kernel, by decide +kernel⟩
theorem n_max : NmOk "max" := ⟨by decide +kernel, by decide +kernel, by decide +kernel⟩
theorem n_mean : NmOk "mean" := ⟨by decide +kernel, by decide +kernel, by decide +kernel⟩
theorem n_met : NmOk "met" := ⟨by decide +kernel, by decide +kernel, by decide +kernel⟩
theorem n_min : NmOk "min" := ⟨by decide +kernel, by decide +kernel, by decide +kernel⟩
theorem n_minus : NmOk "minus" := ⟨by decide +kernel, by decide +kernel, by decide +kernel⟩
theorem n_needed : NmOk "needed" := ⟨by decide +kernel, by decide +kernel, by decide +kernel⟩
theorem n_numbers : NmOk "numbers" := ⟨by decide +kernel, by decide +kernel, by decide +kernel⟩
theorem n_odd : NmOk "odd" := ⟨by decide +kernel, by decide +kernel, by decide +kernel⟩
theorem n_one : NmOk "one" := ⟨by decide +kernel, by decide +kernel, by decide +kernel⟩
theorem n_other : NmOk "other" := ⟨by decide +kernel, by decide +kernel, by decide +kernel⟩
theorem n_own : NmOk "own" := ⟨by decide +kernel, by decide +kernel, by decide +kernel⟩
theorem n_part : NmOk "part" := ⟨by decide +kernel, by decide +kernel, by decide +kernel⟩
theorem n_part_of : NmOk "part_of" := ⟨by decide +kernel, by decide +kernel, by decide +kernel⟩
theorem n_parts : NmOk "parts" := ⟨by decide +kernel, by decide +kernel, by decide +kernel⟩
theorem n_place : NmOk "place" := ⟨by decide +kernel, by decide +kernel, by decide +kernel⟩
theorem n_pot : NmOk "pot" := ⟨by decide +kernel, by decide +kernel, by decide +kernel⟩
theorem n_range : NmOk "range" := ⟨by decide +kernel, by decide +kernel, by decide +kernel⟩
theorem n_repr : NmOk "repr" := ⟨by decide +kernel, by decide +kernel, by decide +kernel⟩
theorem n_row : NmOk "row" := ⟨by decide +kernel, by decide +kernel, by decide +kernel⟩
theorem n_script : NmOk "script" := ⟨by decide +kernel, by decide +kernel, by decide +kernel⟩
theorem n_second : NmOk "second" := ⟨by decide +kernel, by decide +kernel, by decide +kernel⟩
theorem n_set : NmOk "set" := ⟨by decide +kernel, by decide +kernel, by decide +kernel⟩
theorem n_share_above : NmOk "share_above" := ⟨by decide +kernel, by decide +kernel, by decide +kernel⟩
theorem n_share_above_by : NmOk "share_above_by" := ⟨by decide +kernel, by decide +kernel, by decide +kernel⟩
theorem n_share_apart : NmOk "share_apart" := ⟨by decide +kernel, by decide +kernel, by decide +kernel⟩
theorem n_share_below : NmOk "share_below" := ⟨by decide +kernel, by decide +kernel, by decide +kernel⟩
theorem n_shares : NmOk "shares" := ⟨by decide +kernel, by decide +kernel, by decide +kernel⟩
theorem n_size : NmOk "size" := ⟨by decide +kernel, by decide +kernel, by decide +kernel⟩
theorem n_small : NmOk "small" := ⟨by decide +kernel, by decide +kernel, by decide +kernel⟩
theorem n_some : NmOk "some" := ⟨by decide +kernel, by decide +kernel, by decide +kernel⟩
theorem n_sorted : NmOk "sorted" := ⟨by decide +kernel, by decide +kernel, by decide +kernel⟩
theorem n_sum : NmOk "sum" := ⟨by decide +kernel, by decide +kernel, by decide +kernel⟩
theorem n_table : NmOk "table" := ⟨by decide +kernel, by decide +kernel, by decide +kernel⟩
theorem n_tables : NmOk "tables" := ⟨by decide +kernel, by decide +kernel, by decide +kernel⟩
theorem n_tables_by : NmOk "tables_by" := ⟨by decide +kernel, by decide +kernel, by decide +kernel⟩
theorem n_tables_of : NmOk "tables_of" := ⟨by decide +kernel, by decide +kernel, by decide +kernel⟩
theorem n_things : NmOk "things" := ⟨by decide +kernel, by decide +kernel, by decide +kernel⟩
theorem n_through : NmOk "through" := ⟨by decide +kernel, by decide +kernel, by decide +kernel⟩
theorem n_top : NmOk "top" := ⟨by decide +kernel, by decide +kernel, by decide +kernel⟩
theorem n_tuple : NmOk "tuple" := ⟨by decide +kernel, by decide +kernel, by decide +kernel⟩
theorem n_turned : NmOk "turned" := ⟨by decide +kernel, by decide +kernel, by decide +kernel⟩
theorem n_upto : NmOk "upto" := ⟨by decide +kernel, by decide +kernel, by decide +kernel⟩
theorem n_value : NmOk "value" := ⟨by decide +kernel, by decide +kernel, by decide +kernel⟩
theorem n_ways : NmOk "ways" := ⟨by decide +kernel, by decide +kernel, by decide +kernel⟩
theorem n_ways_by : NmOk "ways_by" := ⟨by decide +kernel, by decide +kernel, by decide +kernel⟩
theorem n_ways_of : NmOk "ways_of" := ⟨by decide +kernel, by decide +kernel, by decide +kernel⟩
theorem n_whole : NmOk "whole" := ⟨by decide +kernel, by decide +kernel, by decide +kernel⟩
theorem n_zip : NmOk "zip" := ⟨by decide +kernel, by decide +kernel, by decide +kernel⟩
structure TX (K : Frag) (mg : Str → Option Value) (ad : Nat → Addr) (fd : Nat → FuncData) : Prop where
  f_is_integer : Fun K "is_integer" "is_integer" s_is_integer (ad 0) (fd 0)
  g_is_integer : mg "is_integer" = some (.ref (ad 0))
  b_is_integer : Binds K (fd 0) ["value"] []
  f_is_between : Fun K "is_between" "is_between" s_is_between (ad 1) (fd 1)
  g_is_between : mg "is_between" = some (.ref (ad 1))
  b_is_between : Binds K (fd 1) ["value", "low", "high"] []
  f_are_between : Fun K "are_between" "are_between" s_are_between (ad 2) (fd 2)
  g_are_between : mg "are_between" = some (.ref (ad 2))
  b_are_between : Binds K (fd 2) ["value", "low", "high"] []
  f_is_tuple_of : Fun K "is_tuple_of" "is_tuple_of" s_is_tuple_of (ad 3) (fd 3)
  g_is_tuple_of : mg "is_tuple_of" = some (.ref (ad 3))
  b_is_tuple_of : Binds K (fd 3) ["value", "many"] []
  f_common : Fun K "common" "common" s_common (ad 4) (fd 4)
  g_common : mg "common" = some (.ref (ad 4))
  b_common : Binds K (fd 4) ["one", "other"] []
  f_part : Fun K "part" "part" s_part (ad 5) (fd 5)
  g_part : mg "part" = some (.ref (ad 5))
  b_part : Binds K (fd 5) ["top", "low"] []
  f_is_fraction : Fun K "is_fraction" "is_fraction" s_is_fraction (ad 6) (fd 6)
  g_is_fraction : mg "is_fraction" = some (.ref (ad 6))
  b_is_fraction : Binds K (fd 6) ["value"] []
  f_minus : Fun K "minus" "minus" s_minus (ad 7) (fd 7)
  g_minus : mg "minus" = some (.ref (ad 7))
  b_minus : Binds K (fd 7) ["one", "other"] []
  f_through : Fun K "through" "through" s_through (ad 8) (fd 8)
  g_through : mg "through" = some (.ref (ad 8))
  b_through : Binds K (fd 8) ["one", "other"] []
  f_is_less : Fun K "is_less" "is_less" s_is_less (ad 9) (fd 9)
  g_is_less : mg "is_less" = some (.ref (ad 9))
  b_is_less : Binds K (fd 9) ["one", "other"] []
  f_choose : Fun K "choose" "choose" s_choose (ad 10) (fd 10)
  g_choose : mg "choose" = some (.ref (ad 10))
  b_choose : Binds K (fd 10) ["many", "some"] []
  f_is_table_of : Fun K "is_table_of" "is_table_of" s_is_table_of (ad 11) (fd 11)
  g_is_table_of : mg "is_table_of" = some (.ref (ad 11))
  b_is_table_of : Binds K (fd 11) ["value"] []
  f_is_table : Fun K "is_table" "is_table" s_is_table (ad 12) (fd 12)
  g_is_table : mg "is_table" = some (.ref (ad 12))
  b_is_table : Binds K (fd 12) ["value"] []
  f_are_margins_of : Fun K "are_margins_of" "are_margins_of" s_are_margins_of (ad 13) (fd 13)
  g_are_margins_of : mg "are_margins_of" = some (.ref (ad 13))
  b_are_margins_of : Binds K (fd 13) ["value"] []
  f_are_margins : Fun K "are_margins" "are_margins" s_are_margins (ad 14) (fd 14)
  g_are_margins : mg "are_margins" = some (.ref (ad 14))
  b_are_margins : Binds K (fd 14) ["value"] []
  f_check_table : Fun K "check_table" "check_table" s_check_table (ad 15) (fd 15)
  g_check_table : mg "check_table" = some (.ref (ad 15))
  b_check_table : Binds K (fd 15) ["table"] []
  f_check_margins : Fun K "check_margins" "check_margins" s_check_margins (ad 16) (fd 16)
  g_check_margins : mg "check_margins" = some (.ref (ad 16))
  b_check_margins : Binds K (fd 16) ["margins"] []
  f_margins_by : Fun K "margins_by" "margins_by" s_margins_by (ad 17) (fd 17)
  g_margins_by : mg "margins_by" = some (.ref (ad 17))
  b_margins_by : Binds K (fd 17) ["table"] []
  f_margins_of : Fun K "margins_of" "margins_of" s_margins_of (ad 18) (fd 18)
  g_margins_of : mg "margins_of" = some (.ref (ad 18))
  b_margins_of : Binds K (fd 18) ["table"] []
  f_tables_by : Fun K "tables_by" "tables_by" s_tables_by (ad 19) (fd 19)
  g_tables_by : mg "tables_by" = some (.ref (ad 19))
  b_tables_by : Binds K (fd 19) ["margins"] []
  f_tables_of : Fun K "tables_of" "tables_of" s_tables_of (ad 20) (fd 20)
  g_tables_of : mg "tables_of" = some (.ref (ad 20))
  b_tables_of : Binds K (fd 20) ["margins"] []
  f_ways_by : Fun K "ways_by" "ways_by" s_ways_by (ad 21) (fd 21)
  g_ways_by : mg "ways_by" = some (.ref (ad 21))
  b_ways_by : Binds K (fd 21) ["table"] []
  f_ways_of : Fun K "ways_of" "ways_of" s_ways_of (ad 22) (fd 22)
  g_ways_of : mg "ways_of" = some (.ref (ad 22))
  b_ways_of : Binds K (fd 22) ["table"] []
  f_part_of : Fun K "part_of" "part_of" s_part_of (ad 23) (fd 23)
  g_part_of : mg "part_of" = some (.ref (ad 23))
  b_part_of : Binds K (fd 23) ["table", "some"] []
  f_chance_of : Fun K "chance_of" "chance_of" s_chance_of (ad 24) (fd 24)
  g_chance_of : mg "chance_of" = some (.ref (ad 24))
  b_chance_of : Binds K (fd 24) ["table"] []
  f_alike_by : Fun K "alike_by" "alike_by" s_alike_by (ad 25) (fd 25)
  g_alike_by : mg "alike_by" = some (.ref (ad 25))
  b_alike_by : Binds K (fd 25) ["table"] []
  f_alike_of : Fun K "alike_of" "alike_of" s_alike_of (ad 26) (fd 26)
  g_alike_of : mg "alike_of" = some (.ref (ad 26))
  b_alike_of : Binds K (fd 26) ["table"] []
  f_kappa_of : Fun K "kappa_of" "kappa_of" s_kappa_of (ad 27) (fd 27)
  g_kappa_of : mg "kappa_of" = some (.ref (ad 27))
  b_kappa_of : Binds K (fd 27) ["table"] []
  f_alike_between : Fun K "alike_between" "alike_between" s_alike_between (ad 28) (fd 28)
  g_alike_between : mg "alike_between" = some (.ref (ad 28))
  b_alike_between : Binds K (fd 28) ["margins"] []
  f_share_above_by : Fun K "share_above_by" "share_above_by" s_share_above_by (ad 29) (fd 29)
  g_share_above_by : mg "share_above_by" = some (.ref (ad 29))
  b_share_above_by : Binds K (fd 29) ["table"] []
  f_share_above : Fun K "share_above" "share_above" s_share_above (ad 30) (fd 30)
  g_share_above : mg "share_above" = some (.ref (ad 30))
  b_share_above : Binds K (fd 30) ["table"] []
  f_share_below : Fun K "share_below" "share_below" s_share_below (ad 31) (fd 31)
  g_share_below : mg "share_below" = some (.ref (ad 31))
  b_share_below : Binds K (fd 31) ["table"] []
  f_share_apart : Fun K "share_apart" "share_apart" s_share_apart (ad 32) (fd 32)
  g_share_apart : mg "share_apart" = some (.ref (ad 32))
  b_share_apart : Binds K (fd 32) ["table"] []
  f_needed : Fun K "needed" "needed" s_needed (ad 33) (fd 33)
  g_needed : mg "needed" = some (.ref (ad 33))
  b_needed : Binds K (fd 33) ["margins", "level"] []
  f__law_pot : Fun K "_law_pot" "_law_pot" s__law_pot (ad 34) (fd 34)
  g__law_pot : mg "_law_pot" = some (.ref (ad 34))
  b__law_pot : Binds K (fd 34) ["script", "place"] []
  f__law_take : Fun K "_law_take" "_law_take" s__law_take (ad 35) (fd 35)
  g__law_take : mg "_law_take" = some (.ref (ad 35))
  b__law_take : Binds K (fd 35) ["pot", "upto"] []
  f__law_cells : Fun K "_law_cells" "_law_cells" s__law_cells (ad 36) (fd 36)
  g__law_cells : mg "_law_cells" = some (.ref (ad 36))
  b__law_cells : Binds K (fd 36) ["script", "limit"] []
  f__law_part : Fun K "_law_part" "_law_part" s__law_part (ad 37) (fd 37)
  g__law_part : mg "_law_part" = some (.ref (ad 37))
  b__law_part : Binds K (fd 37) ["top", "low"] []
  f__law_plus : Fun K "_law_plus" "_law_plus" s__law_plus (ad 38) (fd 38)
  g__law_plus : mg "_law_plus" = some (.ref (ad 38))
  b__law_plus : Binds K (fd 38) ["one", "other"] []
  f__law_sum : Fun K "_law_sum" "_law_sum" s__law_sum (ad 39) (fd 39)
  g__law_sum : mg "_law_sum" = some (.ref (ad 39))
  b__law_sum : Binds K (fd 39) ["some"] []
  f__law_less : Fun K "_law_less" "_law_less" s__law_less (ad 40) (fd 40)
  g__law_less : mg "_law_less" = some (.ref (ad 40))
  b__law_less : Binds K (fd 40) ["one", "other"] []
  f__law_choose : Fun K "_law_choose" "_law_choose" s__law_choose (ad 41) (fd 41)
  g__law_choose : mg "_law_choose" = some (.ref (ad 41))
  b__law_choose : Binds K (fd 41) ["many", "some"] []
  f__law_lots : Fun K "_law_lots" "_law_lots" s__law_lots (ad 42) (fd 42)
  g__law_lots : mg "_law_lots" = some (.ref (ad 42))
  b__law_lots : Binds K (fd 42) ["many", "size"] []
  f__law_kappa : Fun K "_law_kappa" "_law_kappa" s__law_kappa (ad 43) (fd 43)
  g__law_kappa : mg "_law_kappa" = some (.ref (ad 43))
  b__law_kappa : Binds K (fd 43) ["table"] []
  f__law_is_share_fair : Fun K "_law_is_share_fair" "_law_is_share_fair" s__law_is_share_fair (ad 44) (fd 44)
  g__law_is_share_fair : mg "_law_is_share_fair" = some (.ref (ad 44))
  b__law_is_share_fair : Binds K (fd 44) ["ways", "shares"] []
  f__law_are_ways_right : Fun K "_law_are_ways_right" "_law_are_ways_right" s__law_are_ways_right (ad 45) (fd 45)
  g__law_are_ways_right : mg "_law_are_ways_right" = some (.ref (ad 45))
  b__law_are_ways_right : Binds K (fd 45) ["pot"] []
  f__law_is_great_right : Fun K "_law_is_great_right" "_law_is_great_right" s__law_is_great_right (ad 46) (fd 46)
  g__law_is_great_right : mg "_law_is_great_right" = some (.ref (ad 46))
  b__law_is_great_right : Binds K (fd 46) ["pot"] []
  f_law : Fun K "law" "law" s_law (ad 47) (fd 47)
  g_law : mg "law" = some (.ref (ad 47))
  b_law : Binds K (fd 47) ["script"] []
  z_abs : mg "abs" = none
  z_all : mg "all" = none
  z_bool : mg "bool" = none
  z_int : mg "int" = none
  z_isinstance : mg "isinstance" = none
  z_len : mg "len" = none
  z_list : mg "list" = none
  z_max : mg "max" = none
  z_min : mg "min" = none
  z_range : mg "range" = none
  z_repr : mg "repr" = none
  z_set : mg "set" = none
  z_sorted : mg "sorted" = none
  z_sum : mg "sum" = none
  z_tuple : mg "tuple" = none
  z_zip : mg "zip" = none
  g_MOST_THINGS : ∃ u, mg "MOST_THINGS" = some u ∧ RelV (.int 60) u
/-! is_integer -/
theorem sc_is_integer : FnScope ["value"] ["value"] (defScope s_is_integer) := ⟨rfl, rfl, rfl, by decide +kernel, rfl, by decide +kernel, by decide +kernel⟩
theorem v_is_integer_bool : lk (defScope s_is_integer) "bool" = some .globalImplicit := by decide +kernel
theorem v_is_integer_int : lk (defScope s_is_integer) "int" = some .globalImplicit := by decide +kernel
theorem v_is_integer_isinstance : lk (defScope s_is_integer) "isinstance" = some .globalImplicit := by decide +kernel
theorem k_is_integer_value : lk (defScope s_is_integer) "value" = some .local := by decide +kernel
theorem v_is_integer_value : kVis (lk (defScope s_is_integer) "value") = true := by rw [k_is_integer_value]; rfl
theorem c_is_integer_value : kLoc (lk (defScope s_is_integer) "value") = true := by rw [k_is_integer_value]; rfl
def m_is_integer : Fn := fnM false 1 (retS (andE (una (gIsa "int") (var 0)) (valT (notT (tru (una (gIsa "bool") (var 0)))))))
theorem ok_is_integer {P : Program} {w : World} {K : Frag} {mg : Str → Option Value} {base : Heap} {ad : Nat → Addr} {fd : Nat → FuncData} (T : TX K mg ad fd) : FnG P w K mg base 1 (ad 0) (fd 0) ["value"] m_is_integer := by
  refine fnG_fun T.f_is_integer sc_is_integer fun X e1 e2 e3 e4 e5 hN hs hc hx hfn hgd hr => ?_
  subst e1 e2 e3 e4 e5
  have nd := sc_is_integer.nd
  have hu := hu_room hr
  exact (ok_one (ok_ret (ok_andE (ok_isa boot_int (by decide) (gl hs v_is_integer_isinstance) T.z_isinstance (gl hs v_is_integer_int) T.z_int n_int.nn n_int.dbg (gv 0 hN rfl hs v_is_integer_value n_value) rfl) (pe_one (ok_not (ok_truth (ok_isa boot_bool (by decide) (gl hs v_is_integer_isinstance) T.z_isinstance (gl hs v_is_integer_bool) T.z_bool n_bool.nn n_bool.dbg (gv 0 hN rfl hs v_is_integer_value n_value) rfl) (fun _ => rfl)) ⟨_, (ok_isa boot_bool (by decide) (gl hs v_is_integer_isinstance) T.z_isinstance (gl hs v_is_integer_bool) T.z_bool n_bool.nn n_bool.dbg (gv 0 hN rfl hs v_is_integer_value n_value) rfl), rfl⟩)))))
/-! is_between -/
theorem sc_is_between : FnScope ["value", "low", "high"] ["value", "low", "high"] (defScope s_is_between) := ⟨rfl, rfl, rfl, by decide +kernel, rfl, by decide +kernel, by decide +kernel⟩
theorem k_is_between_high : lk (defScope s_is_between) "high" = some .local := by decide +kernel
theorem v_is_between_high : kVis (lk (defScope s_is_between) "high") = true := by rw [k_is_between_high]; rfl
theorem c_is_between_high : kLoc (lk (defScope s_is_between) "high") = true := by rw [k_is_between_high]; rfl
theorem v_is_between_is_integer : lk (defScope s_is_between) "is_integer" = some .globalImplicit := by decide +kernel
theorem k_is_between_low : lk (defScope s_is_between) "low" = some .local := by decide +kernel
theorem v_is_between_low : kVis (lk (defScope s_is_between) "low") = true := by rw [k_is_between_low]; rfl
theorem c_is_between_low : kLoc (lk (defScope s_is_between) "low") = true := by rw [k_is_between_low]; rfl
theorem k_is_between_value : lk (defScope s_is_between) "value" = some .local := by decide +kernel
theorem v_is_between_value : kVis (lk (defScope s_is_between) "value") = true := by rw [k_is_between_value]; rfl
theorem c_is_between_value : kLoc (lk (defScope s_is_between) "value") = true := by rw [k_is_between_value]; rfl
def m_is_between : Fn := fnM false 3 (retS (andE (app m_is_integer (consA (var 0) nilA)) (valT (chn (var 1) [(.LtE, (var 0)), (.LtE, (var 2))]))))
theorem ok_is_between {P : Program} {w : World} {K : Frag} {mg : Str → Option Value} {base : Heap} {ad : Nat → Addr} {fd : Nat → FuncData} (T : TX K mg ad fd) : FnG P w K mg base 2 (ad 1) (fd 1) ["value", "low", "high"] m_is_between := by
  refine fnG_fun T.f_is_between sc_is_between fun X e1 e2 e3 e4 e5 hN hs hc hx hfn hgd hr => ?_
  subst e1 e2 e3 e4 e5
  have nd := sc_is_between.nd
  have hu := hu_room hr
  exact (ok_one (ok_ret (ok_andE (ok_app (ok_is_integer T) (hr.mono (by decide)) hgd (gl hs v_is_between_is_integer) T.g_is_integer T.f_is_integer.kp T.b_is_integer rfl (ok_consA (gv 0 hN rfl hs v_is_between_value n_value) ok_nilA (starEach_ok rfl)) (lenA_cons lenA_nil) n_is_integer.dbg rfl) (pe_one (ok_chnE hu (gv 1 hN rfl hs v_is_between_low n_low) (ChnOk.cons (gv 0 hN rfl hs v_is_between_value n_value) (ChnOk.one (gv 2 hN rfl hs v_is_between_high n_high))) rfl)))))
/-! are_between -/
theorem sc_are_between : FnScope ["value", "low", "high", "one"] ["value", "low", "high"] (defScope s_are_between) := ⟨rfl, rfl, rfl, by decide +kernel, rfl, by decide +kernel, by decide +kernel⟩
theorem v_are_between_all : lk (defScope s_are_between) "all" = some .globalImplicit := by decide +kernel
theorem v_are_between_isinstance : lk (defScope s_are_between) "isinstance" = some .globalImplicit := by decide +kernel
theorem v_are_between_tuple : lk (defScope s_are_between) "tuple" = some .globalImplicit := by decide +kernel
theorem k_are_between_value : lk (defScope s_are_between) "value" = some .local := by decide +kernel
theorem v_are_between_value : kVis (lk (defScope s_are_between) "value") = true := by rw [k_are_between_value]; rfl
theorem c_are_between_value : kLoc (lk (defScope s_are_between) "value") = true := by rw [k_are_between_value]; rfl
def m_are_between : Fn := fnM false 4 (retS (andE (una (gIsa "tuple") (var 0)) (blt bAll (consA (lc [3] (.nm 3) (iterS (var 0)) yesT (app m_is_between (consA (var 3) (consA (var 1) (consA (var 2) nilA))))) nilA))))
theorem ok_are_between {P : Program} {w : World} {K : Frag} {mg : Str → Option Value} {base : Heap} {ad : Nat → Addr} {fd : Nat → FuncData} (T : TX K mg ad fd) : FnG P w K mg base 3 (ad 2) (fd 2) ["value", "low", "high"] m_are_between := by
  refine fnG_fun T.f_are_between sc_are_between fun X e1 e2 e3 e4 e5 hN hs hc hx hfn hgd hr => ?_
  subst e1 e2 e3 e4 e5
  have nd := sc_are_between.nd
  have hu := hu_room hr
  exact (ok_one (ok_ret (ok_andE (ok_isa boot_tuple (by decide) (gl hs v_are_between_isinstance) T.z_isinstance (gl hs v_are_between_tuple) T.z_tuple n_tuple.nn n_tuple.dbg (gv 0 hN rfl hs v_are_between_value n_value) rfl) (pe_one (ok_blt (ok_all hc) (gl hs v_are_between_all) T.z_all boot_all (ok_consA (ok_lc (own := [("one", 3)]) hc (hN ▸ nd) (ok_iterS (gv 0 hN rfl hs v_are_between_value n_value)) (blk_of hN hs (by decide +kernel)) ⟨fun _ _ _ _ _ => (gtb 3 hN nd rfl (by decide +kernel)), fun _ _ _ _ _ => ok_yes, fun _ _ _ _ _ => (ok_app (ok_is_between T) (hr.mono (by decide)) hgd (glb rfl (by decide +kernel)) T.g_is_between T.f_is_between.kp T.b_is_between rfl (ok_consA (gvb 3 hN rfl rfl (by decide +kernel) n_one) (ok_consA (gvb 1 hN rfl rfl (by decide +kernel) n_low) (ok_consA (gvb 2 hN rfl rfl (by decide +kernel) n_high) ok_nilA (starEach_ok rfl)) (starEach_ok rfl)) (starEach_ok rfl)) (lenA_cons (lenA_cons (lenA_cons lenA_nil))) n_is_between.dbg rfl)⟩ (own_sub rfl) (fold_no rfl)) ok_nilA (starEach_ok rfl)) n_all.nn n_all.dbg rfl)))))
/-! is_tuple_of -/
theorem sc_is_tuple_of : FnScope ["value", "many"] ["value", "many"] (defScope s_is_tuple_of) := ⟨rfl, rfl, rfl, by decide +kernel, rfl, by decide +kernel, by decide +kernel⟩
theorem v_is_tuple_of_isinstance : lk (defScope s_is_tuple_of) "isinstance" = some .globalImplicit := by decide +kernel
theorem v_is_tuple_of_len : lk (defScope s_is_tuple_of) "len" = some .globalImplicit := by decide +kernel
theorem k_is_tuple_of_many : lk (defScope s_is_tuple_of) "many" = some .local := by decide +kernel
theorem v_is_tuple_of_many : kVis (lk (defScope s_is_tuple_of) "many") = true := by rw [k_is_tuple_of_many]; rfl
theorem c_is_tuple_of_many : kLoc (lk (defScope s_is_tuple_of) "many") = true := by rw [k_is_tuple_of_many]; rfl
theorem v_is_tuple_of_tuple : lk (defScope s_is_tuple_of) "tuple" = some .globalImplicit := by decide +kernel
theorem k_is_tuple_of_value : lk (defScope s_is_tuple_of) "value" = some .local := by decide +kernel
theorem v_is_tuple_of_value : kVis (lk (defScope s_is_tuple_of) "value") = true := by rw [k_is_tuple_of_value]; rfl
theorem c_is_tuple_of_value : kLoc (lk (defScope s_is_tuple_of) "value") = true := by rw [k_is_tuple_of_value]; rfl
def m_is_tuple_of : Fn := fnM false 2 (retS (andE (una (gIsa "tuple") (var 0)) (bin gEq (blt bLen (consA (var 0) nilA)) (var 1))))
theorem ok_is_tuple_of {P : Program} {w : World} {K : Frag} {mg : Str → Option Value} {base : Heap} {ad : Nat → Addr} {fd : Nat → FuncData} (T : TX K mg ad fd) : FnG P w K mg base 1 (ad 3) (fd 3) ["value", "many"] m_is_tuple_of := by
  refine fnG_fun T.f_is_tuple_of sc_is_tuple_of fun X e1 e2 e3 e4 e5 hN hs hc hx hfn hgd hr => ?_
  subst e1 e2 e3 e4 e5
  have nd := sc_is_tuple_of.nd
  have hu := hu_room hr
  exact (ok_one (ok_ret (ok_andE (ok_isa boot_tuple (by decide) (gl hs v_is_tuple_of_isinstance) T.z_isinstance (gl hs v_is_tuple_of_tuple) T.z_tuple n_tuple.nn n_tuple.dbg (gv 0 hN rfl hs v_is_tuple_of_value n_value) rfl) (pe_one (ok_cmp1 (ok_eq hu) (ok_blt ok_len (gl hs v_is_tuple_of_len) T.z_len boot_len (ok_consA (gv 0 hN rfl hs v_is_tuple_of_value n_value) ok_nilA (starEach_ok rfl)) n_len.nn n_len.dbg rfl) (gv 1 hN rfl hs v_is_tuple_of_many n_many) rfl)))))
/-! common -/
theorem sc_common : FnScope ["one", "other"] ["one", "other"] (defScope s_common) := ⟨rfl, rfl, rfl, by decide +kernel, rfl, by decide +kernel, by decide +kernel⟩
theorem k_common_one : lk (defScope s_common) "one" = some .local := by decide +kernel
theorem v_common_one : kVis (lk (defScope s_common) "one") = true := by rw [k_common_one]; rfl
theorem c_common_one : kLoc (lk (defScope s_common) "one") = true := by rw [k_common_one]; rfl
theorem k_common_other : lk (defScope s_common) "other" = some .local := by decide +kernel
theorem v_common_other : kVis (lk (defScope s_common) "other") = true := by rw [k_common_other]; rfl
theorem c_common_other : kLoc (lk (defScope s_common) "other") = true := by rw [k_common_other]; rfl
def m_common : Fn := fnM false 2 (sq (whl fuel (tru (bin gNe (var 1) (cst (.int 0)))) (par2 0 1 (consA (var 1) (consA (bin gMod (var 0) (var 1)) nilA))))
    (retS (var 0)))
theorem ok_common {P : Program} {w : World} {K : Frag} {mg : Str → Option Value} {base : Heap} {ad : Nat → Addr} {fd : Nat → FuncData} (T : TX K mg ad fd) : FnG P w K mg base 1 (ad 4) (fd 4) ["one", "other"] m_common := by
  refine fnG_fun T.f_common sc_common fun X e1 e2 e3 e4 e5 hN hs hc hx hfn hgd hr => ?_
  subst e1 e2 e3 e4 e5
  have nd := sc_common.nd
  have hu := hu_room hr
  exact (ok_cons (ok_whl fuel hx (ok_cmpT (ok_ne hu) (gv 1 hN rfl hs v_common_other n_other) ok_int rfl) (ok_one (g_par2 hN hs sc_common.kind hc nd rfl rfl (by decide) k_common_one k_common_other (ok_consA (gv 1 hN rfl hs v_common_other n_other) (ok_consA (ok_bin ok_mod (gv 0 hN rfl hs v_common_one n_one) (gv 1 hN rfl hs v_common_other n_other)) ok_nilA (starEach_ok rfl)) (starEach_ok rfl)) (by decide +kernel) rfl rfl)))
    (ok_one (ok_ret (gv 0 hN rfl hs v_common_one n_one))))
/-! part -/
theorem sc_part : FnScope ["top", "low", "both"] ["top", "low"] (defScope s_part) := ⟨rfl, rfl, rfl, by decide +kernel, rfl, by decide +kernel, by decide +kernel⟩
theorem v_part_abs : lk (defScope s_part) "abs" = some .globalImplicit := by decide +kernel
theorem k_part_both : lk (defScope s_part) "both" = some .local := by decide +kernel
theorem v_part_both : kVis (lk (defScope s_part) "both") = true := by rw [k_part_both]; rfl
theorem c_part_both : kLoc (lk (defScope s_part) "both") = true := by rw [k_part_both]; rfl
theorem v_part_common : lk (defScope s_part) "common" = some .globalImplicit := by decide +kernel
theorem k_part_low : lk (defScope s_part) "low" = some .local := by decide +kernel
theorem v_part_low : kVis (lk (defScope s_part) "low") = true := by rw [k_part_low]; rfl
theorem c_part_low : kLoc (lk (defScope s_part) "low") = true := by rw [k_part_low]; rfl
theorem k_part_top : lk (defScope s_part) "top" = some .local := by decide +kernel
theorem v_part_top : kVis (lk (defScope s_part) "top") = true := by rw [k_part_top]; rfl
theorem c_part_top : kLoc (lk (defScope s_part) "top") = true := by rw [k_part_top]; rfl
def m_part : Fn := fnM false 3 (sq (asg 2 (app m_common (consA (blt bAbs (consA (var 0) nilA)) (consA (blt bAbs (consA (var 1) nilA)) nilA))))
    (sq (asg 2 (ifE (tru (bin gLt (var 1) (cst (.int 0)))) (una gNeg (var 2)) (var 2)))
    (retS (tupE (consA (bin gDiv (var 0) (var 2)) (consA (bin gDiv (var 1) (var 2)) nilA))))))
theorem ok_part {P : Program} {w : World} {K : Frag} {mg : Str → Option Value} {base : Heap} {ad : Nat → Addr} {fd : Nat → FuncData} (T : TX K mg ad fd) : FnG P w K mg base 2 (ad 5) (fd 5) ["top", "low"] m_part := by
  refine fnG_fun T.f_part sc_part fun X e1 e2 e3 e4 e5 hN hs hc hx hfn hgd hr => ?_
  subst e1 e2 e3 e4 e5
  have nd := sc_part.nd
  have hu := hu_room hr
  exact (ok_cons (g_asg 2 hN nd rfl hs c_part_both (congrFun hfn _) (ok_app (ok_common T) (hr.mono (by decide)) hgd (gl hs v_part_common) T.g_common T.f_common.kp T.b_common rfl (ok_consA (ok_blt ok_abs (gl hs v_part_abs) T.z_abs boot_abs (ok_consA (gv 0 hN rfl hs v_part_top n_top) ok_nilA (starEach_ok rfl)) n_abs.nn n_abs.dbg rfl) (ok_consA (ok_blt ok_abs (gl hs v_part_abs) T.z_abs boot_abs (ok_consA (gv 1 hN rfl hs v_part_low n_low) ok_nilA (starEach_ok rfl)) n_abs.nn n_abs.dbg rfl) ok_nilA (starEach_ok rfl)) (starEach_ok rfl)) (lenA_cons (lenA_cons lenA_nil)) n_common.dbg rfl) (swaps_no rfl))
    (ok_cons (g_asg 2 hN nd rfl hs c_part_both (congrFun hfn _) (ok_ifE (ok_cmpT (ok_lt hu) (gv 1 hN rfl hs v_part_low n_low) ok_int rfl) (ok_neg (gv 2 hN rfl hs v_part_both n_both)) (gv 2 hN rfl hs v_part_both n_both)) (swaps_no rfl))
    (ok_one (ok_ret (ok_tupE (ok_consA (ok_bin ok_div (gv 0 hN rfl hs v_part_top n_top) (gv 2 hN rfl hs v_part_both n_both)) (ok_consA (ok_bin ok_div (gv 1 hN rfl hs v_part_low n_low) (gv 2 hN rfl hs v_part_both n_both)) ok_nilA (starEach_ok rfl)) (starEach_ok rfl)))))))
/-! is_fraction -/
theorem sc_is_fraction : FnScope ["value"] ["value"] (defScope s_is_fraction) := ⟨rfl, rfl, rfl, by decide +kernel, rfl, by decide +kernel, by decide +kernel⟩
theorem v_is_fraction_abs : lk (defScope s_is_fraction) "abs" = some .globalImplicit := by decide +kernel
theorem v_is_fraction_common : lk (defScope s_is_fraction) "common" = some .globalImplicit := by decide +kernel
theorem v_is_fraction_is_integer : lk (defScope s_is_fraction) "is_integer" = some .globalImplicit := by decide +kernel
theorem v_is_fraction_is_tuple_of : lk (defScope s_is_fraction) "is_tuple_of" = some .globalImplicit := by decide +kernel
theorem k_is_fraction_value : lk (defScope s_is_fraction) "value" = some .local := by decide +kernel
theorem v_is_fraction_value : kVis (lk (defScope s_is_fraction) "value") = true := by rw [k_is_fraction_value]; rfl
theorem c_is_fraction_value : kLoc (lk (defScope s_is_fraction) "value") = true := by rw [k_is_fraction_value]; rfl
def m_is_fraction : Fn := fnM false 1 (sq (iff (orT (notT (tru (app m_is_tuple_of (consA (var 0) (consA (cst (.int 2)) nilA))))) (orT (notT (tru (app m_is_integer (consA (bin gIdx (var 0) (cst (.int 0))) nilA)))) (orT (notT (tru (app m_is_integer (consA (bin gIdx (var 0) (cst (.int 1))) nilA)))) (tru (bin gLt (bin gIdx (var 0) (cst (.int 1))) (cst (.int 1))))))) (retS (cst (.bool false))) skp)
    (retS (bin gEq (app m_common (consA (blt bAbs (consA (bin gIdx (var 0) (cst (.int 0))) nilA)) (consA (bin gIdx (var 0) (cst (.int 1))) nilA))) (cst (.int 1)))))
theorem ok_is_fraction {P : Program} {w : World} {K : Frag} {mg : Str → Option Value} {base : Heap} {ad : Nat → Addr} {fd : Nat → FuncData} (T : TX K mg ad fd) : FnG P w K mg base 2 (ad 6) (fd 6) ["value"] m_is_fraction := by
  refine fnG_fun T.f_is_fraction sc_is_fraction fun X e1 e2 e3 e4 e5 hN hs hc hx hfn hgd hr => ?_
  subst e1 e2 e3 e4 e5
  have nd := sc_is_fraction.nd
  have hu := hu_room hr
  exact (ok_cons (ok_iff (PW.pt (ok_orT (ok_notT (ok_truth (ok_app (ok_is_tuple_of T) (hr.mono (by decide)) hgd (gl hs v_is_fraction_is_tuple_of) T.g_is_tuple_of T.f_is_tuple_of.kp T.b_is_tuple_of rfl (ok_consA (gv 0 hN rfl hs v_is_fraction_value n_value) (ok_consA ok_int ok_nilA (starEach_ok rfl)) (starEach_ok rfl)) (lenA_cons (lenA_cons lenA_nil)) n_is_tuple_of.dbg rfl) (fun _ => rfl))) (ok_orT (ok_notT (ok_truth (ok_app (ok_is_integer T) (hr.mono (by decide)) hgd (gl hs v_is_fraction_is_integer) T.g_is_integer T.f_is_integer.kp T.b_is_integer rfl (ok_consA (ok_idx (gv 0 hN rfl hs v_is_fraction_value n_value) ok_int (plainIx_of rfl)) ok_nilA (starEach_ok rfl)) (lenA_cons lenA_nil) n_is_integer.dbg rfl) (fun _ => rfl))) (ok_orT (ok_notT (ok_truth (ok_app (ok_is_integer T) (hr.mono (by decide)) hgd (gl hs v_is_fraction_is_integer) T.g_is_integer T.f_is_integer.kp T.b_is_integer rfl (ok_consA (ok_idx (gv 0 hN rfl hs v_is_fraction_value n_value) ok_int (plainIx_of rfl)) ok_nilA (starEach_ok rfl)) (lenA_cons lenA_nil) n_is_integer.dbg rfl) (fun _ => rfl))) (pw_or1 (ok_cmpT (ok_lt hu) (ok_idx (gv 0 hN rfl hs v_is_fraction_value n_value) ok_int (plainIx_of rfl)) ok_int rfl)))))) (ok_one (ok_ret ok_bool)) ok_nil)
    (ok_one (ok_ret (ok_cmp1 (ok_eq hu) (ok_app (ok_common T) (hr.mono (by decide)) hgd (gl hs v_is_fraction_common) T.g_common T.f_common.kp T.b_common rfl (ok_consA (ok_blt ok_abs (gl hs v_is_fraction_abs) T.z_abs boot_abs (ok_consA (ok_idx (gv 0 hN rfl hs v_is_fraction_value n_value) ok_int (plainIx_of rfl)) ok_nilA (starEach_ok rfl)) n_abs.nn n_abs.dbg rfl) (ok_consA (ok_idx (gv 0 hN rfl hs v_is_fraction_value n_value) ok_int (plainIx_of rfl)) ok_nilA (starEach_ok rfl)) (starEach_ok rfl)) (lenA_cons (lenA_cons lenA_nil)) n_common.dbg rfl) ok_int rfl))))
/-! minus -/
theorem sc_minus : FnScope ["one", "other"] ["one", "other"] (defScope s_minus) := ⟨rfl, rfl, rfl, by decide +kernel, rfl, by decide +kernel, by decide +kernel⟩
theorem k_minus_one : lk (defScope s_minus) "one" = some .local := by decide +kernel
theorem v_minus_one : kVis (lk (defScope s_minus) "one") = true := by rw [k_minus_one]; rfl
theorem c_minus_one : kLoc (lk (defScope s_minus) "one") = true := by rw [k_minus_one]; rfl
theorem k_minus_other : lk (defScope s_minus) "other" = some .local := by decide +kernel
theorem v_minus_other : kVis (lk (defScope s_minus) "other") = true := by rw [k_minus_other]; rfl
theorem c_minus_other : kLoc (lk (defScope s_minus) "other") = true := by rw [k_minus_other]; rfl
theorem v_minus_part : lk (defScope s_minus) "part" = some .globalImplicit := by decide +kernel
def m_minus : Fn := fnM false 2 (retS (app m_part (consA (bin gSub (bin gMul (bin gIdx (var 0) (cst (.int 0))) (bin gIdx (var 1) (cst (.int 1)))) (bin gMul (bin gIdx (var 1) (cst (.int 0))) (bin gIdx (var 0) (cst (.int 1))))) (consA (bin gMul (bin gIdx (var 0) (cst (.int 1))) (bin gIdx (var 1) (cst (.int 1)))) nilA))))
theorem ok_minus {P : Program} {w : World} {K : Frag} {mg : Str → Option Value} {base : Heap} {ad : Nat → Addr} {fd : Nat → FuncData} (T : TX K mg ad fd) : FnG P w K mg base 3 (ad 7) (fd 7) ["one", "other"] m_minus := by
  refine fnG_fun T.f_minus sc_minus fun X e1 e2 e3 e4 e5 hN hs hc hx hfn hgd hr => ?_
  subst e1 e2 e3 e4 e5
  have nd := sc_minus.nd
  have hu := hu_room hr
  exact (ok_one (ok_ret (ok_app (ok_part T) (hr.mono (by decide)) hgd (gl hs v_minus_part) T.g_part T.f_part.kp T.b_part rfl (ok_consA (ok_bin ok_sub (ok_bin ok_mul (ok_idx (gv 0 hN rfl hs v_minus_one n_one) ok_int (plainIx_of rfl)) (ok_idx (gv 1 hN rfl hs v_minus_other n_other) ok_int (plainIx_of rfl))) (ok_bin ok_mul (ok_idx (gv 1 hN rfl hs v_minus_other n_other) ok_int (plainIx_of rfl)) (ok_idx (gv 0 hN rfl hs v_minus_one n_one) ok_int (plainIx_of rfl)))) (ok_consA (ok_bin ok_mul (ok_idx (gv 0 hN rfl hs v_minus_one n_one) ok_int (plainIx_of rfl)) (ok_idx (gv 1 hN rfl hs v_minus_other n_other) ok_int (plainIx_of rfl))) ok_nilA (starEach_ok rfl)) (starEach_ok rfl)) (lenA_cons (lenA_cons lenA_nil)) n_part.dbg rfl)))
/-! through -/
theorem sc_through : FnScope ["one", "other"] ["one", "other"] (defScope s_through) := ⟨rfl, rfl, rfl, by decide +kernel, rfl, by decide +kernel, by decide +kernel⟩
theorem k_through_one : lk (defScope s_through) "one" = some .local := by decide +kernel
theorem v_through_one : kVis (lk (defScope s_through) "one") = true := by rw [k_through_one]; rfl
theorem c_through_one : kLoc (lk (defScope s_through) "one") = true := by rw [k_through_one]; rfl
theorem k_through_other : lk (defScope s_through) "other" = some .local := by decide +kernel
theorem v_through_other : kVis (lk (defScope s_through) "other") = true := by rw [k_through_other]; rfl
theorem c_through_other : kLoc (lk (defScope s_through) "other") = true := by rw [k_through_other]; rfl
theorem v_through_part : lk (defScope s_through) "part" = some .globalImplicit := by decide +kernel
def m_through : Fn := fnM false 2 (retS (app m_part (consA (bin gMul (bin gIdx (var 0) (cst (.int 0))) (bin gIdx (var 1) (cst (.int 1)))) (consA (bin gMul (bin gIdx (var 0) (cst (.int 1))) (bin gIdx (var 1) (cst (.int 0)))) nilA))))
theorem ok_through {P : Program} {w : World} {K : Frag} {mg : Str → Option Value} {base : Heap} {ad : Nat → Addr} {fd : Nat → FuncData} (T : TX K mg ad fd) : FnG P w K mg base 3 (ad 8) (fd 8) ["one", "other"] m_through := by
  refine fnG_fun T.f_through sc_through fun X e1 e2 e3 e4 e5 hN hs hc hx hfn hgd hr => ?_
  subst e1 e2 e3 e4 e5
  have nd := sc_through.nd
  have hu := hu_room hr
  exact (ok_one (ok_ret (ok_app (ok_part T) (hr.mono (by decide)) hgd (gl hs v_through_part) T.g_part T.f_part.kp T.b_part rfl (ok_consA (ok_bin ok_mul (ok_idx (gv 0 hN rfl hs v_through_one n_one) ok_int (plainIx_of rfl)) (ok_idx (gv 1 hN rfl hs v_through_other n_other) ok_int (plainIx_of rfl))) (ok_consA (ok_bin ok_mul (ok_idx (gv 0 hN rfl hs v_through_one n_one) ok_int (plainIx_of rfl)) (ok_idx (gv 1 hN rfl hs v_through_other n_other) ok_int (plainIx_of rfl))) ok_nilA (starEach_ok rfl)) (starEach_ok rfl)) (lenA_cons (lenA_cons lenA_nil)) n_part.dbg rfl)))
/-! is_less -/
theorem sc_is_less : FnScope ["one", "other"] ["one", "other"] (defScope s_is_less) := ⟨rfl, rfl, rfl, by decide +kernel, rfl, by decide +kernel, by decide +kernel⟩
theorem k_is_less_one : lk (defScope s_is_less) "one" = some .local := by decide +kernel
theorem v_is_less_one : kVis (lk (defScope s_is_less) "one") = true := by rw [k_is_less_one]; rfl
theorem c_is_less_one : kLoc (lk (defScope s_is_less) "one") = true := by rw [k_is_less_one]; rfl
theorem k_is_less_other : lk (defScope s_is_less) "other" = some .local := by decide +kernel
theorem v_is_less_other : kVis (lk (defScope s_is_less) "other") = true := by rw [k_is_less_other]; rfl
theorem c_is_less_other : kLoc (lk (defScope s_is_less) "other") = true := by rw [k_is_less_other]; rfl
def m_is_less : Fn := fnM false 2 (retS (bin gLt (bin gMul (bin gIdx (var 0) (cst (.int 0))) (bin gIdx (var 1) (cst (.int 1)))) (bin gMul (bin gIdx (var 1) (cst (.int 0))) (bin gIdx (var 0) (cst (.int 1))))))
theorem ok_is_less {P : Program} {w : World} {K : Frag} {mg : Str → Option Value} {base : Heap} {ad : Nat → Addr} {fd : Nat → FuncData} (T : TX K mg ad fd) : FnG P w K mg base 1 (ad 9) (fd 9) ["one", "other"] m_is_less := by
  refine fnG_fun T.f_is_less sc_is_less fun X e1 e2 e3 e4 e5 hN hs hc hx hfn hgd hr => ?_
  subst e1 e2 e3 e4 e5
  have nd := sc_is_less.nd
  have hu := hu_room hr
  exact (ok_one (ok_ret (ok_cmp1 (ok_lt hu) (ok_bin ok_mul (ok_idx (gv 0 hN rfl hs v_is_less_one n_one) ok_int (plainIx_of rfl)) (ok_idx (gv 1 hN rfl hs v_is_less_other n_other) ok_int (plainIx_of rfl))) (ok_bin ok_mul (ok_idx (gv 1 hN rfl hs v_is_less_other n_other) ok_int (plainIx_of rfl)) (ok_idx (gv 0 hN rfl hs v_is_less_one n_one) ok_int (plainIx_of rfl))) rfl)))
/-! choose -/
theorem sc_choose : FnScope ["many", "some", "found", "at"] ["many", "some"] (defScope s_choose) := ⟨rfl, rfl, rfl, by decide +kernel, rfl, by decide +kernel, by decide +kernel⟩
theorem k_choose_at : lk (defScope s_choose) "at" = some .local := by decide +kernel
theorem v_choose_at : kVis (lk (defScope s_choose) "at") = true := by rw [k_choose_at]; rfl
theorem c_choose_at : kLoc (lk (defScope s_choose) "at") = true := by rw [k_choose_at]; rfl
theorem k_choose_found : lk (defScope s_choose) "found" = some .local := by decide +kernel
theorem v_choose_found : kVis (lk (defScope s_choose) "found") = true := by rw [k_choose_found]; rfl
theorem c_choose_found : kLoc (lk (defScope s_choose) "found") = true := by rw [k_choose_found]; rfl
theorem k_choose_many : lk (defScope s_choose) "many" = some .local := by decide +kernel
theorem v_choose_many : kVis (lk (defScope s_choose) "many") = true := by rw [k_choose_many]; rfl
theorem c_choose_many : kLoc (lk (defScope s_choose) "many") = true := by rw [k_choose_many]; rfl
theorem v_choose_range : lk (defScope s_choose) "range" = some .globalImplicit := by decide +kernel
theorem k_choose_some : lk (defScope s_choose) "some" = some .local := by decide +kernel
theorem v_choose_some : kVis (lk (defScope s_choose) "some") = true := by rw [k_choose_some]; rfl
theorem c_choose_some : kLoc (lk (defScope s_choose) "some") = true := by rw [k_choose_some]; rfl
def m_choose : Fn := fnM false 4 (sq (asg 2 (cst (.int 1)))
    (sq (forS (.nm 3) (iterR1 (consA (var 1) nilA)) (asg 2 (bin gDiv (bin gMul (var 2) (bin gSub (var 0) (var 3))) (bin gAdd (var 3) (cst (.int 1))))))
    (retS (var 2))))
theorem ok_choose {P : Program} {w : World} {K : Frag} {mg : Str → Option Value} {base : Heap} {ad : Nat → Addr} {fd : Nat → FuncData} (T : TX K mg ad fd) : FnG P w K mg base 1 (ad 10) (fd 10) ["many", "some"] m_choose := by
  refine fnG_fun T.f_choose sc_choose fun X e1 e2 e3 e4 e5 hN hs hc hx hfn hgd hr => ?_
  subst e1 e2 e3 e4 e5
  have nd := sc_choose.nd
  have hu := hu_room hr
  exact (ok_cons (g_asg 2 hN nd rfl hs c_choose_found (congrFun hfn _) ok_int (swaps_no rfl))
    (ok_cons (ok_forS hx hc (ok_iterR1 (gl hs v_choose_range) T.z_range (ok_consA (gv 1 hN rfl hs v_choose_some n_some) ok_nilA (starEach_ok rfl)) (starEach_ok rfl)) (gt 3 hN nd rfl hs c_choose_at (congrFun hfn _)) (ok_one (g_asg 2 hN nd rfl hs c_choose_found (congrFun hfn _) (ok_bin ok_div (ok_bin ok_mul (gv 2 hN rfl hs v_choose_found n_found) (ok_bin ok_sub (gv 0 hN rfl hs v_choose_many n_many) (gv 3 hN rfl hs v_choose_at n_at))) (ok_bin ok_add (gv 3 hN rfl hs v_choose_at n_at) ok_int)) (swaps_no rfl))) (fold_no rfl))
    (ok_one (ok_ret (gv 2 hN rfl hs v_choose_found n_found)))))
/-! is_table_of -/
theorem sc_is_table_of : FnScope ["value"] ["value"] (defScope s_is_table_of) := ⟨rfl, rfl, rfl, by decide +kernel, rfl, by decide +kernel, by decide +kernel⟩
theorem v_is_table_of_MOST_THINGS : lk (defScope s_is_table_of) "MOST_THINGS" = some .globalImplicit := by decide +kernel
theorem v_is_table_of_are_between : lk (defScope s_is_table_of) "are_between" = some .globalImplicit := by decide +kernel
theorem v_is_table_of_is_tuple_of : lk (defScope s_is_table_of) "is_tuple_of" = some .globalImplicit := by decide +kernel
theorem v_is_table_of_sum : lk (defScope s_is_table_of) "sum" = some .globalImplicit := by decide +kernel
theorem k_is_table_of_value : lk (defScope s_is_table_of) "value" = some .local := by decide +kernel
theorem v_is_table_of_value : kVis (lk (defScope s_is_table_of) "value") = true := by rw [k_is_table_of_value]; rfl
theorem c_is_table_of_value : kLoc (lk (defScope s_is_table_of) "value") = true := by rw [k_is_table_of_value]; rfl
def m_is_table_of : Fn := fnM false 1 (retS (andE (app m_is_tuple_of (consA (var 0) (consA (cst (.int 4)) nilA))) (andE (app m_are_between (consA (var 0) (consA (cst (.int 0)) (consA (cst (.int 60)) nilA)))) (valT (chn (cst (.int 1)) [(.LtE, (blt bSum (consA (var 0) nilA))), (.LtE, (cst (.int 60)))])))))
theorem ok_is_table_of {P : Program} {w : World} {K : Frag} {mg : Str → Option Value} {base : Heap} {ad : Nat → Addr} {fd : Nat → FuncData} (T : TX K mg ad fd) : FnG P w K mg base 4 (ad 11) (fd 11) ["value"] m_is_table_of := by
  refine fnG_fun T.f_is_table_of sc_is_table_of fun X e1 e2 e3 e4 e5 hN hs hc hx hfn hgd hr => ?_
  subst e1 e2 e3 e4 e5
  have nd := sc_is_table_of.nd
  have hu := hu_room hr
  exact (ok_one (ok_ret (ok_andE (ok_app (ok_is_tuple_of T) (hr.mono (by decide)) hgd (gl hs v_is_table_of_is_tuple_of) T.g_is_tuple_of T.f_is_tuple_of.kp T.b_is_tuple_of rfl (ok_consA (gv 0 hN rfl hs v_is_table_of_value n_value) (ok_consA ok_int ok_nilA (starEach_ok rfl)) (starEach_ok rfl)) (lenA_cons (lenA_cons lenA_nil)) n_is_tuple_of.dbg rfl) (ok_andE (ok_app (ok_are_between T) (hr.mono (by decide)) hgd (gl hs v_is_table_of_are_between) T.g_are_between T.f_are_between.kp T.b_are_between rfl (ok_consA (gv 0 hN rfl hs v_is_table_of_value n_value) (ok_consA ok_int (ok_consA (ok_globE (gl hs v_is_table_of_MOST_THINGS) T.g_MOST_THINGS (fun _ _ => (.int _)) n_MOST_THINGS.dbg) ok_nilA (starEach_ok rfl)) (starEach_ok rfl)) (starEach_ok rfl)) (lenA_cons (lenA_cons (lenA_cons lenA_nil))) n_are_between.dbg rfl) (pe_one (ok_chnE hu ok_int (ChnOk.cons (ok_blt (ok_sum hc) (gl hs v_is_table_of_sum) T.z_sum boot_sum (ok_consA (gv 0 hN rfl hs v_is_table_of_value n_value) ok_nilA (starEach_ok rfl)) n_sum.nn n_sum.dbg rfl) (ChnOk.one (ok_globE (gl hs v_is_table_of_MOST_THINGS) T.g_MOST_THINGS (fun _ _ => (.int _)) n_MOST_THINGS.dbg))) rfl))))))
/-! is_table -/
theorem sc_is_table : FnScope ["value"] ["value"] (defScope s_is_table) := ⟨rfl, rfl, rfl, by decide +kernel, rfl, by decide +kernel, by decide +kernel⟩
theorem v_is_table_is_table_of : lk (defScope s_is_table) "is_table_of" = some .globalImplicit := by decide +kernel
theorem k_is_table_value : lk (defScope s_is_table) "value" = some .local := by decide +kernel
theorem v_is_table_value : kVis (lk (defScope s_is_table) "value") = true := by rw [k_is_table_value]; rfl
theorem c_is_table_value : kLoc (lk (defScope s_is_table) "value") = true := by rw [k_is_table_value]; rfl
def m_is_table : Fn := fnM false 1 (retS (app m_is_table_of (consA (var 0) nilA)))
theorem ok_is_table {P : Program} {w : World} {K : Frag} {mg : Str → Option Value} {base : Heap} {ad : Nat → Addr} {fd : Nat → FuncData} (T : TX K mg ad fd) : FnG P w K mg base 5 (ad 12) (fd 12) ["value"] m_is_table := by
  refine fnG_fun T.f_is_table sc_is_table fun X e1 e2 e3 e4 e5 hN hs hc hx hfn hgd hr => ?_
  subst e1 e2 e3 e4 e5
  have nd := sc_is_table.nd
  have hu := hu_room hr
  exact (ok_one (ok_ret (ok_app (ok_is_table_of T) (hr.mono (by decide)) hgd (gl hs v_is_table_is_table_of) T.g_is_table_of T.f_is_table_of.kp T.b_is_table_of rfl (ok_consA (gv 0 hN rfl hs v_is_table_value n_value) ok_nilA (starEach_ok rfl)) (lenA_cons lenA_nil) n_is_table_of.dbg rfl)))
/-! are_margins_of -/
theorem sc_are_margins_of : FnScope ["value"] ["value"] (defScope s_are_margins_of) := ⟨rfl, rfl, rfl, by decide +kernel, rfl, by decide +kernel, by decide +kernel⟩
theorem v_are_margins_of_MOST_THINGS : lk (defScope s_are_margins_of) "MOST_THINGS" = some .globalImplicit := by decide +kernel
theorem v_are_margins_of_are_between : lk (defScope s_are_margins_of) "are_between" = some .globalImplicit := by decide +kernel
theorem v_are_margins_of_is_between : lk (defScope s_are_margins_of) "is_between" = some .globalImplicit := by decide +kernel
theorem v_are_margins_of_is_tuple_of : lk (defScope s_are_margins_of) "is_tuple_of" = some .globalImplicit := by decide +kernel
theorem k_are_margins_of_value : lk (defScope s_are_margins_of) "value" = some .local := by decide +kernel
theorem v_are_margins_of_value : kVis (lk (defScope s_are_margins_of) "value") = true := by rw [k_are_margins_of_value]; rfl
theorem c_are_margins_of_value : kLoc (lk (defScope s_are_margins_of) "value") = true := by rw [k_are_margins_of_value]; rfl
def m_are_margins_of : Fn := fnM false 1 (sq (iff (orT (notT (tru (app m_is_tuple_of (consA (var 0) (consA (cst (.int 3)) nilA))))) (notT (tru (app m_is_between (consA (bin gIdx (var 0) (cst (.int 0))) (consA (cst (.int 1)) (consA (cst (.int 60)) nilA))))))) (retS (cst (.bool false))) skp)
    (retS (app m_are_between (consA (slc (var 0) (someP (cst (.int 1))) noP) (consA (cst (.int 0)) (consA (bin gIdx (var 0) (cst (.int 0))) nilA))))))
theorem ok_are_margins_of {P : Program} {w : World} {K : Frag} {mg : Str → Option Value} {base : Heap} {ad : Nat → Addr} {fd : Nat → FuncData} (T : TX K mg ad fd) : FnG P w K mg base 4 (ad 13) (fd 13) ["value"] m_are_margins_of := by
  refine fnG_fun T.f_are_margins_of sc_are_margins_of fun X e1 e2 e3 e4 e5 hN hs hc hx hfn hgd hr => ?_
  subst e1 e2 e3 e4 e5
  have nd := sc_are_margins_of.nd
  have hu := hu_room hr
  exact (ok_cons (ok_iff (PW.pt (ok_orT (ok_notT (ok_truth (ok_app (ok_is_tuple_of T) (hr.mono (by decide)) hgd (gl hs v_are_margins_of_is_tuple_of) T.g_is_tuple_of T.f_is_tuple_of.kp T.b_is_tuple_of rfl (ok_consA (gv 0 hN rfl hs v_are_margins_of_value n_value) (ok_consA ok_int ok_nilA (starEach_ok rfl)) (starEach_ok rfl)) (lenA_cons (lenA_cons lenA_nil)) n_is_tuple_of.dbg rfl) (fun _ => rfl))) (pw_or1 (ok_notT (ok_truth (ok_app (ok_is_between T) (hr.mono (by decide)) hgd (gl hs v_are_margins_of_is_between) T.g_is_between T.f_is_between.kp T.b_is_between rfl (ok_consA (ok_idx (gv 0 hN rfl hs v_are_margins_of_value n_value) ok_int (plainIx_of rfl)) (ok_consA ok_int (ok_consA (ok_globE (gl hs v_are_margins_of_MOST_THINGS) T.g_MOST_THINGS (fun _ _ => (.int _)) n_MOST_THINGS.dbg) ok_nilA (starEach_ok rfl)) (starEach_ok rfl)) (starEach_ok rfl)) (lenA_cons (lenA_cons (lenA_cons lenA_nil))) n_is_between.dbg rfl) (fun _ => rfl)))))) (ok_one (ok_ret ok_bool)) ok_nil)
    (ok_one (ok_ret (ok_app (ok_are_between T) (hr.mono (by decide)) hgd (gl hs v_are_margins_of_are_between) T.g_are_between T.f_are_between.kp T.b_are_between rfl (ok_consA (ok_slc (gv 0 hN rfl hs v_are_margins_of_value n_value) (ok_someP ok_int) ok_noP) (ok_consA ok_int (ok_consA (ok_idx (gv 0 hN rfl hs v_are_margins_of_value n_value) ok_int (plainIx_of rfl)) ok_nilA (starEach_ok rfl)) (starEach_ok rfl)) (starEach_ok rfl)) (lenA_cons (lenA_cons (lenA_cons lenA_nil))) n_are_between.dbg rfl))))
/-! are_margins -/
theorem sc_are_margins : FnScope ["value"] ["value"] (defScope s_are_margins) := ⟨rfl, rfl, rfl, by decide +kernel, rfl, by decide +kernel, by decide +kernel⟩
theorem v_are_margins_are_margins_of : lk (defScope s_are_margins) "are_margins_of" = some .globalImplicit := by decide +kernel
theorem k_are_margins_value : lk (defScope s_are_margins) "value" = some .local := by decide +kernel
theorem v_are_margins_value : kVis (lk (defScope s_are_margins) "value") = true := by rw [k_are_margins_value]; rfl
theorem c_are_margins_value : kLoc (lk (defScope s_are_margins) "value") = true := by rw [k_are_margins_value]; rfl
def m_are_margins : Fn := fnM false 1 (retS (app m_are_margins_of (consA (var 0) nilA)))
theorem ok_are_margins {P : Program} {w : World} {K : Frag} {mg : Str → Option Value} {base : Heap} {ad : Nat → Addr} {fd : Nat → FuncData} (T : TX K mg ad fd) : FnG P w K mg base 5 (ad 14) (fd 14) ["value"] m_are_margins := by
  refine fnG_fun T.f_are_margins sc_are_margins fun X e1 e2 e3 e4 e5 hN hs hc hx hfn hgd hr => ?_
  subst e1 e2 e3 e4 e5
  have nd := sc_are_margins.nd
  have hu := hu_room hr
  exact (ok_one (ok_ret (ok_app (ok_are_margins_of T) (hr.mono (by decide)) hgd (gl hs v_are_margins_are_margins_of) T.g_are_margins_of T.f_are_margins_of.kp T.b_are_margins_of rfl (ok_consA (gv 0 hN rfl hs v_are_margins_value n_value) ok_nilA (starEach_ok rfl)) (lenA_cons lenA_nil) n_are_margins_of.dbg rfl)))
/-! check_table -/
theorem sc_check_table : FnScope ["table"] ["table"] (defScope s_check_table) := ⟨rfl, rfl, rfl, by decide +kernel, rfl, by decide +kernel, by decide +kernel⟩
theorem v_check_table_is_table_of : lk (defScope s_check_table) "is_table_of" = some .globalImplicit := by decide +kernel
theorem k_check_table_table : lk (defScope s_check_table) "table" = some .local := by decide +kernel
theorem v_check_table_table : kVis (lk (defScope s_check_table) "table") = true := by rw [k_check_table_table]; rfl
theorem c_check_table_table : kLoc (lk (defScope s_check_table) "table") = true := by rw [k_check_table_table]; rfl
def m_check_table : Fn := fnM false 1 (iff (notT (tru (app m_is_table_of (consA (var 0) nilA)))) stk skp)
theorem ok_check_table {P : Program} {w : World} {K : Frag} {mg : Str → Option Value} {base : Heap} {ad : Nat → Addr} {fd : Nat → FuncData} (T : TX K mg ad fd) : FnG P w K mg base 5 (ad 15) (fd 15) ["table"] m_check_table := by
  refine fnG_fun T.f_check_table sc_check_table fun X e1 e2 e3 e4 e5 hN hs hc hx hfn hgd hr => ?_
  subst e1 e2 e3 e4 e5
  have nd := sc_check_table.nd
  have hu := hu_room hr
  exact (ok_one (ok_iff (ok_notT (ok_truth (ok_app (ok_is_table_of T) (hr.mono (by decide)) hgd (gl hs v_check_table_is_table_of) T.g_is_table_of T.f_is_table_of.kp T.b_is_table_of rfl (ok_consA (gv 0 hN rfl hs v_check_table_table n_table) ok_nilA (starEach_ok rfl)) (lenA_cons lenA_nil) n_is_table_of.dbg rfl) (fun _ => rfl))) (ok_one ok_stk) ok_nil))
/-! check_margins -/
theorem sc_check_margins : FnScope ["margins"] ["margins"] (defScope s_check_margins) := ⟨rfl, rfl, rfl, by decide +kernel, rfl, by decide +kernel, by decide +kernel⟩
theorem v_check_margins_are_margins_of : lk (defScope s_check_margins) "are_margins_of" = some .globalImplicit := by decide +kernel
theorem k_check_margins_margins : lk (defScope s_check_margins) "margins" = some .local := by decide +kernel
theorem v_check_margins_margins : kVis (lk (defScope s_check_margins) "margins") = true := by rw [k_check_margins_margins]; rfl
theorem c_check_margins_margins : kLoc (lk (defScope s_check_margins) "margins") = true := by rw [k_check_margins_margins]; rfl
def m_check_margins : Fn := fnM false 1 (iff (notT (tru (app m_are_margins_of (consA (var 0) nilA)))) stk skp)
theorem ok_check_margins {P : Program} {w : World} {K : Frag} {mg : Str → Option Value} {base : Heap} {ad : Nat → Addr} {fd : Nat → FuncData} (T : TX K mg ad fd) : FnG P w K mg base 5 (ad 16) (fd 16) ["margins"] m_check_margins := by
  refine fnG_fun T.f_check_margins sc_check_margins fun X e1 e2 e3 e4 e5 hN hs hc hx hfn hgd hr => ?_
  subst e1 e2 e3 e4 e5
  have nd := sc_check_margins.nd
  have hu := hu_room hr
  exact (ok_one (ok_iff (ok_notT (ok_truth (ok_app (ok_are_margins_of T) (hr.mono (by decide)) hgd (gl hs v_check_margins_are_margins_of) T.g_are_margins_of T.f_are_margins_of.kp T.b_are_margins_of rfl (ok_consA (gv 0 hN rfl hs v_check_margins_margins n_margins) ok_nilA (starEach_ok rfl)) (lenA_cons lenA_nil) n_are_margins_of.dbg rfl) (fun _ => rfl))) (ok_one ok_stk) ok_nil))
/-! margins_by -/
theorem sc_margins_by : FnScope ["table"] ["table"] (defScope s_margins_by) := ⟨rfl, rfl, rfl, by decide +kernel, rfl, by decide +kernel, by decide +kernel⟩
theorem v_margins_by_sum : lk (defScope s_margins_by) "sum" = some .globalImplicit := by decide +kernel
theorem k_margins_by_table : lk (defScope s_margins_by) "table" = some .local := by decide +kernel
theorem v_margins_by_table : kVis (lk (defScope s_margins_by) "table") = true := by rw [k_margins_by_table]; rfl
theorem c_margins_by_table : kLoc (lk (defScope s_margins_by) "table") = true := by rw [k_margins_by_table]; rfl
def m_margins_by : Fn := fnM false 1 (retS (tupE (consA (blt bSum (consA (var 0) nilA)) (consA (bin gAdd (bin gIdx (var 0) (cst (.int 0))) (bin gIdx (var 0) (cst (.int 1)))) (consA (bin gAdd (bin gIdx (var 0) (cst (.int 0))) (bin gIdx (var 0) (cst (.int 2)))) nilA)))))
theorem ok_margins_by {P : Program} {w : World} {K : Frag} {mg : Str → Option Value} {base : Heap} {ad : Nat → Addr} {fd : Nat → FuncData} (T : TX K mg ad fd) : FnG P w K mg base 1 (ad 17) (fd 17) ["table"] m_margins_by := by
  refine fnG_fun T.f_margins_by sc_margins_by fun X e1 e2 e3 e4 e5 hN hs hc hx hfn hgd hr => ?_
  subst e1 e2 e3 e4 e5
  have nd := sc_margins_by.nd
  have hu := hu_room hr
  exact (ok_one (ok_ret (ok_tupE (ok_consA (ok_blt (ok_sum hc) (gl hs v_margins_by_sum) T.z_sum boot_sum (ok_consA (gv 0 hN rfl hs v_margins_by_table n_table) ok_nilA (starEach_ok rfl)) n_sum.nn n_sum.dbg rfl) (ok_consA (ok_bin ok_add (ok_idx (gv 0 hN rfl hs v_margins_by_table n_table) ok_int (plainIx_of rfl)) (ok_idx (gv 0 hN rfl hs v_margins_by_table n_table) ok_int (plainIx_of rfl))) (ok_consA (ok_bin ok_add (ok_idx (gv 0 hN rfl hs v_margins_by_table n_table) ok_int (plainIx_of rfl)) (ok_idx (gv 0 hN rfl hs v_margins_by_table n_table) ok_int (plainIx_of rfl))) ok_nilA (starEach_ok rfl)) (starEach_ok rfl)) (starEach_ok rfl)))))
/-! margins_of -/
theorem sc_margins_of : FnScope ["table"] ["table"] (defScope s_margins_of) := ⟨rfl, rfl, rfl, by decide +kernel, rfl, by decide +kernel, by decide +kernel⟩
theorem v_margins_of_check_table : lk (defScope s_margins_of) "check_table" = some .globalImplicit := by decide +kernel
theorem v_margins_of_margins_by : lk (defScope s_margins_of) "margins_by" = some .globalImplicit := by decide +kernel
theorem k_margins_of_table : lk (defScope s_margins_of) "table" = some .local := by decide +kernel
theorem v_margins_of_table : kVis (lk (defScope s_margins_of) "table") = true := by rw [k_margins_of_table]; rfl
theorem c_margins_of_table : kLoc (lk (defScope s_margins_of) "table") = true := by rw [k_margins_of_table]; rfl
def m_margins_of : Fn := fnM false 1 (sq (drp (app m_check_table (consA (var 0) nilA)))
    (retS (app m_margins_by (consA (var 0) nilA))))
theorem ok_margins_of {P : Program} {w : World} {K : Frag} {mg : Str → Option Value} {base : Heap} {ad : Nat → Addr} {fd : Nat → FuncData} (T : TX K mg ad fd) : FnG P w K mg base 6 (ad 18) (fd 18) ["table"] m_margins_of := by
  refine fnG_fun T.f_margins_of sc_margins_of fun X e1 e2 e3 e4 e5 hN hs hc hx hfn hgd hr => ?_
  subst e1 e2 e3 e4 e5
  have nd := sc_margins_of.nd
  have hu := hu_room hr
  exact (ok_cons (ok_drp (ok_app (ok_check_table T) (hr.mono (by decide)) hgd (gl hs v_margins_of_check_table) T.g_check_table T.f_check_table.kp T.b_check_table rfl (ok_consA (gv 0 hN rfl hs v_margins_of_table n_table) ok_nilA (starEach_ok rfl)) (lenA_cons lenA_nil) n_check_table.dbg rfl) (swaps_no rfl))
    (ok_one (ok_ret (ok_app (ok_margins_by T) (hr.mono (by decide)) hgd (gl hs v_margins_of_margins_by) T.g_margins_by T.f_margins_by.kp T.b_margins_by rfl (ok_consA (gv 0 hN rfl hs v_margins_of_table n_table) ok_nilA (starEach_ok rfl)) (lenA_cons lenA_nil) n_margins_by.dbg rfl))))
/-! tables_by -/
theorem sc_tables_by : FnScope ["margins", "things", "first", "second", "low", "high", "both"] ["margins"] (defScope s_tables_by) := ⟨rfl, rfl, rfl, by decide +kernel, rfl, by decide +kernel, by decide +kernel⟩
theorem k_tables_by_first : lk (defScope s_tables_by) "first" = some .cell := by decide +kernel
theorem v_tables_by_first : kVis (lk (defScope s_tables_by) "first") = true := by rw [k_tables_by_first]; rfl
theorem c_tables_by_first : kLoc (lk (defScope s_tables_by) "first") = true := by rw [k_tables_by_first]; rfl
theorem k_tables_by_high : lk (defScope s_tables_by) "high" = some .local := by decide +kernel
theorem v_tables_by_high : kVis (lk (defScope s_tables_by) "high") = true := by rw [k_tables_by_high]; rfl
theorem c_tables_by_high : kLoc (lk (defScope s_tables_by) "high") = true := by rw [k_tables_by_high]; rfl
theorem k_tables_by_low : lk (defScope s_tables_by) "low" = some .local := by decide +kernel
theorem v_tables_by_low : kVis (lk (defScope s_tables_by) "low") = true := by rw [k_tables_by_low]; rfl
theorem c_tables_by_low : kLoc (lk (defScope s_tables_by) "low") = true := by rw [k_tables_by_low]; rfl
theorem k_tables_by_margins : lk (defScope s_tables_by) "margins" = some .local := by decide +kernel
theorem v_tables_by_margins : kVis (lk (defScope s_tables_by) "margins") = true := by rw [k_tables_by_margins]; rfl
theorem c_tables_by_margins : kLoc (lk (defScope s_tables_by) "margins") = true := by rw [k_tables_by_margins]; rfl
theorem v_tables_by_max : lk (defScope s_tables_by) "max" = some .globalImplicit := by decide +kernel
theorem v_tables_by_min : lk (defScope s_tables_by) "min" = some .globalImplicit := by decide +kernel
theorem v_tables_by_range : lk (defScope s_tables_by) "range" = some .globalImplicit := by decide +kernel
theorem k_tables_by_second : lk (defScope s_tables_by) "second" = some .cell := by decide +kernel
theorem v_tables_by_second : kVis (lk (defScope s_tables_by) "second") = true := by rw [k_tables_by_second]; rfl
theorem c_tables_by_second : kLoc (lk (defScope s_tables_by) "second") = true := by rw [k_tables_by_second]; rfl
theorem k_tables_by_things : lk (defScope s_tables_by) "things" = some .cell := by decide +kernel
theorem v_tables_by_things : kVis (lk (defScope s_tables_by) "things") = true := by rw [k_tables_by_things]; rfl
theorem c_tables_by_things : kLoc (lk (defScope s_tables_by) "things") = true := by rw [k_tables_by_things]; rfl
theorem v_tables_by_tuple : lk (defScope s_tables_by) "tuple" = some .globalImplicit := by decide +kernel
def m_tables_by : Fn := fnM false 7 (sq (asgT (.tp (.cons (.nm 1) (.cons (.nm 2) (.cons (.nm 3) .nil)))) (var 0))
    (sq (par2 4 5 (consA (blt bMax (consA (cst (.int 0)) (consA (bin gSub (bin gAdd (var 2) (var 3)) (var 1)) nilA))) (consA (blt bMin (consA (var 2) (consA (var 3) nilA))) nilA)))
    (retS (blt bTuple (consA (lc [6] (.nm 6) (iterR2 (consA (var 4) (consA (bin gAdd (var 5) (cst (.int 1))) nilA))) yesT (tupE (consA (var 6) (consA (bin gSub (var 2) (var 6)) (consA (bin gSub (var 3) (var 6)) (consA (bin gAdd (bin gSub (bin gSub (var 1) (var 2)) (var 3)) (var 6)) nilA)))))) nilA)))))
theorem ok_tables_by {P : Program} {w : World} {K : Frag} {mg : Str → Option Value} {base : Heap} {ad : Nat → Addr} {fd : Nat → FuncData} (T : TX K mg ad fd) : FnG P w K mg base 1 (ad 19) (fd 19) ["margins"] m_tables_by := by
  refine fnG_fun T.f_tables_by sc_tables_by fun X e1 e2 e3 e4 e5 hN hs hc hx hfn hgd hr => ?_
  subst e1 e2 e3 e4 e5
  have nd := sc_tables_by.nd
  have hu := hu_room hr
  exact (ok_cons (ok_asgT (gv 0 hN rfl hs v_tables_by_margins n_margins) (gt_tup hc (gt_cons (gt 1 hN nd rfl hs c_tables_by_things (congrFun hfn _)) (gt_cons (gt 2 hN nd rfl hs c_tables_by_first (congrFun hfn _)) (gt_cons (gt 3 hN nd rfl hs c_tables_by_second (congrFun hfn _)) gt_nil rfl) rfl) rfl) rfl rfl) (swapsS_no rfl) rfl rfl)
    (ok_cons (g_par2 hN hs sc_tables_by.kind hc nd rfl rfl (by decide) k_tables_by_low k_tables_by_high (ok_consA (ok_blt (ok_max hc) (gl hs v_tables_by_max) T.z_max boot_max (ok_consA ok_int (ok_consA (ok_bin ok_sub (ok_bin ok_add (gv 2 hN rfl hs v_tables_by_first n_first) (gv 3 hN rfl hs v_tables_by_second n_second)) (gv 1 hN rfl hs v_tables_by_things n_things)) ok_nilA (starEach_ok rfl)) (starEach_ok rfl)) n_max.nn n_max.dbg rfl) (ok_consA (ok_blt (ok_min hc) (gl hs v_tables_by_min) T.z_min boot_min (ok_consA (gv 2 hN rfl hs v_tables_by_first n_first) (ok_consA (gv 3 hN rfl hs v_tables_by_second n_second) ok_nilA (starEach_ok rfl)) (starEach_ok rfl)) n_min.nn n_min.dbg rfl) ok_nilA (starEach_ok rfl)) (starEach_ok rfl)) (by decide +kernel) rfl rfl)
    (ok_one (ok_ret (ok_bltT ok_tuple (gl hs v_tables_by_tuple) T.z_tuple boot_tuple (ok_consA (ok_lc (own := [("both", 6)]) hc (hN ▸ nd) (ok_iterR2 (gl hs v_tables_by_range) T.z_range (ok_consA (gv 4 hN rfl hs v_tables_by_low n_low) (ok_consA (ok_bin ok_add (gv 5 hN rfl hs v_tables_by_high n_high) ok_int) ok_nilA (starEach_ok rfl)) (starEach_ok rfl)) ((starEach_ok rfl).trans (congrArg _ (starEach_ok rfl))) (starEach_ok rfl)) (blk_of hN hs (by decide +kernel)) ⟨fun _ _ _ _ _ => (gtb 6 hN nd rfl (by decide +kernel)), fun _ _ _ _ _ => ok_yes, fun _ _ _ _ _ => (ok_tupE (ok_consA (gvb 6 hN rfl rfl (by decide +kernel) n_both) (ok_consA (ok_bin ok_sub (gvb 2 hN rfl rfl (by decide +kernel) n_first) (gvb 6 hN rfl rfl (by decide +kernel) n_both)) (ok_consA (ok_bin ok_sub (gvb 3 hN rfl rfl (by decide +kernel) n_second) (gvb 6 hN rfl rfl (by decide +kernel) n_both)) (ok_consA (ok_bin ok_add (ok_bin ok_sub (ok_bin ok_sub (gvb 1 hN rfl rfl (by decide +kernel) n_things) (gvb 2 hN rfl rfl (by decide +kernel) n_first)) (gvb 3 hN rfl rfl (by decide +kernel) n_second)) (gvb 6 hN rfl rfl (by decide +kernel) n_both)) ok_nilA (starEach_ok rfl)) (starEach_ok rfl)) (starEach_ok rfl)) (starEach_ok rfl)))⟩ (own_sub rfl) (fold_no rfl)) ok_nilA (starEach_ok rfl)) n_tuple.nn n_tuple.dbg rfl)))))
/-! tables_of -/
theorem sc_tables_of : FnScope ["margins"] ["margins"] (defScope s_tables_of) := ⟨rfl, rfl, rfl, by decide +kernel, rfl, by decide +kernel, by decide +kernel⟩
theorem v_tables_of_check_margins : lk (defScope s_tables_of) "check_margins" = some .globalImplicit := by decide +kernel
theorem k_tables_of_margins : lk (defScope s_tables_of) "margins" = some .local := by decide +kernel
theorem v_tables_of_margins : kVis (lk (defScope s_tables_of) "margins") = true := by rw [k_tables_of_margins]; rfl
theorem c_tables_of_margins : kLoc (lk (defScope s_tables_of) "margins") = true := by rw [k_tables_of_margins]; rfl
theorem v_tables_of_tables_by : lk (defScope s_tables_of) "tables_by" = some .globalImplicit := by decide +kernel
def m_tables_of : Fn := fnM false 1 (sq (drp (app m_check_margins (consA (var 0) nilA)))
    (retS (app m_tables_by (consA (var 0) nilA))))
theorem ok_tables_of {P : Program} {w : World} {K : Frag} {mg : Str → Option Value} {base : Heap} {ad : Nat → Addr} {fd : Nat → FuncData} (T : TX K mg ad fd) : FnG P w K mg base 6 (ad 20) (fd 20) ["margins"] m_tables_of := by
  refine fnG_fun T.f_tables_of sc_tables_of fun X e1 e2 e3 e4 e5 hN hs hc hx hfn hgd hr => ?_
  subst e1 e2 e3 e4 e5
  have nd := sc_tables_of.nd
  have hu := hu_room hr
  exact (ok_cons (ok_drp (ok_app (ok_check_margins T) (hr.mono (by decide)) hgd (gl hs v_tables_of_check_margins) T.g_check_margins T.f_check_margins.kp T.b_check_margins rfl (ok_consA (gv 0 hN rfl hs v_tables_of_margins n_margins) ok_nilA (starEach_ok rfl)) (lenA_cons lenA_nil) n_check_margins.dbg rfl) (swaps_no rfl))
    (ok_one (ok_ret (ok_app (ok_tables_by T) (hr.mono (by decide)) hgd (gl hs v_tables_of_tables_by) T.g_tables_by T.f_tables_by.kp T.b_tables_by rfl (ok_consA (gv 0 hN rfl hs v_tables_of_margins n_margins) ok_nilA (starEach_ok rfl)) (lenA_cons lenA_nil) n_tables_by.dbg rfl))))
/-! ways_by -/
theorem sc_ways_by : FnScope ["table"] ["table"] (defScope s_ways_by) := ⟨rfl, rfl, rfl, by decide +kernel, rfl, by decide +kernel, by decide +kernel⟩
theorem v_ways_by_choose : lk (defScope s_ways_by) "choose" = some .globalImplicit := by decide +kernel
theorem k_ways_by_table : lk (defScope s_ways_by) "table" = some .local := by decide +kernel
theorem v_ways_by_table : kVis (lk (defScope s_ways_by) "table") = true := by rw [k_ways_by_table]; rfl
theorem c_ways_by_table : kLoc (lk (defScope s_ways_by) "table") = true := by rw [k_ways_by_table]; rfl
def m_ways_by : Fn := fnM false 1 (retS (bin gMul (app m_choose (consA (bin gAdd (bin gIdx (var 0) (cst (.int 0))) (bin gIdx (var 0) (cst (.int 1)))) (consA (bin gIdx (var 0) (cst (.int 0))) nilA))) (app m_choose (consA (bin gAdd (bin gIdx (var 0) (cst (.int 2))) (bin gIdx (var 0) (cst (.int 3)))) (consA (bin gIdx (var 0) (cst (.int 2))) nilA)))))
theorem ok_ways_by {P : Program} {w : World} {K : Frag} {mg : Str → Option Value} {base : Heap} {ad : Nat → Addr} {fd : Nat → FuncData} (T : TX K mg ad fd) : FnG P w K mg base 2 (ad 21) (fd 21) ["table"] m_ways_by := by
  refine fnG_fun T.f_ways_by sc_ways_by fun X e1 e2 e3 e4 e5 hN hs hc hx hfn hgd hr => ?_
  subst e1 e2 e3 e4 e5
  have nd := sc_ways_by.nd
  have hu := hu_room hr
  exact (ok_one (ok_ret (ok_bin ok_mul (ok_app (ok_choose T) (hr.mono (by decide)) hgd (gl hs v_ways_by_choose) T.g_choose T.f_choose.kp T.b_choose rfl (ok_consA (ok_bin ok_add (ok_idx (gv 0 hN rfl hs v_ways_by_table n_table) ok_int (plainIx_of rfl)) (ok_idx (gv 0 hN rfl hs v_ways_by_table n_table) ok_int (plainIx_of rfl))) (ok_consA (ok_idx (gv 0 hN rfl hs v_ways_by_table n_table) ok_int (plainIx_of rfl)) ok_nilA (starEach_ok rfl)) (starEach_ok rfl)) (lenA_cons (lenA_cons lenA_nil)) n_choose.dbg rfl) (ok_app (ok_choose T) (hr.mono (by decide)) hgd (gl hs v_ways_by_choose) T.g_choose T.f_choose.kp T.b_choose rfl (ok_consA (ok_bin ok_add (ok_idx (gv 0 hN rfl hs v_ways_by_table n_table) ok_int (plainIx_of rfl)) (ok_idx (gv 0 hN rfl hs v_ways_by_table n_table) ok_int (plainIx_of rfl))) (ok_consA (ok_idx (gv 0 hN rfl hs v_ways_by_table n_table) ok_int (plainIx_of rfl)) ok_nilA (starEach_ok rfl)) (starEach_ok rfl)) (lenA_cons (lenA_cons lenA_nil)) n_choose.dbg rfl))))
/-! ways_of -/
theorem sc_ways_of : FnScope ["table"] ["table"] (defScope s_ways_of) := ⟨rfl, rfl, rfl, by decide +kernel, rfl, by decide +kernel, by decide +kernel⟩
theorem v_ways_of_check_table : lk (defScope s_ways_of) "check_table" = some .globalImplicit := by decide +kernel
theorem k_ways_of_table : lk (defScope s_ways_of) "table" = some .local := by decide +kernel
theorem v_ways_of_table : kVis (lk (defScope s_ways_of) "table") = true := by rw [k_ways_of_table]; rfl
theorem c_ways_of_table : kLoc (lk (defScope s_ways_of) "table") = true := by rw [k_ways_of_table]; rfl
theorem v_ways_of_ways_by : lk (defScope s_ways_of) "ways_by" = some .globalImplicit := by decide +kernel
def m_ways_of : Fn := fnM false 1 (sq (drp (app m_check_table (consA (var 0) nilA)))
    (retS (app m_ways_by (consA (var 0) nilA))))
theorem ok_ways_of {P : Program} {w : World} {K : Frag} {mg : Str → Option Value} {base : Heap} {ad : Nat → Addr} {fd : Nat → FuncData} (T : TX K mg ad fd) : FnG P w K mg base 6 (ad 22) (fd 22) ["table"] m_ways_of := by
  refine fnG_fun T.f_ways_of sc_ways_of fun X e1 e2 e3 e4 e5 hN hs hc hx hfn hgd hr => ?_
  subst e1 e2 e3 e4 e5
  have nd := sc_ways_of.nd
  have hu := hu_room hr
  exact (ok_cons (ok_drp (ok_app (ok_check_table T) (hr.mono (by decide)) hgd (gl hs v_ways_of_check_table) T.g_check_table T.f_check_table.kp T.b_check_table rfl (ok_consA (gv 0 hN rfl hs v_ways_of_table n_table) ok_nilA (starEach_ok rfl)) (lenA_cons lenA_nil) n_check_table.dbg rfl) (swaps_no rfl))
    (ok_one (ok_ret (ok_app (ok_ways_by T) (hr.mono (by decide)) hgd (gl hs v_ways_of_ways_by) T.g_ways_by T.f_ways_by.kp T.b_ways_by rfl (ok_consA (gv 0 hN rfl hs v_ways_of_table n_table) ok_nilA (starEach_ok rfl)) (lenA_cons lenA_nil) n_ways_by.dbg rfl))))
/-! part_of -/
theorem sc_part_of : FnScope ["table", "some", "things", "first", "second", "one"] ["table", "some"] (defScope s_part_of) := ⟨rfl, rfl, rfl, by decide +kernel, rfl, by decide +kernel, by decide +kernel⟩
theorem v_part_of_choose : lk (defScope s_part_of) "choose" = some .globalImplicit := by decide +kernel
theorem k_part_of_first : lk (defScope s_part_of) "first" = some .local := by decide +kernel
theorem v_part_of_first : kVis (lk (defScope s_part_of) "first") = true := by rw [k_part_of_first]; rfl
theorem c_part_of_first : kLoc (lk (defScope s_part_of) "first") = true := by rw [k_part_of_first]; rfl
theorem v_part_of_margins_by : lk (defScope s_part_of) "margins_by" = some .globalImplicit := by decide +kernel
theorem v_part_of_part : lk (defScope s_part_of) "part" = some .globalImplicit := by decide +kernel
theorem k_part_of_second : lk (defScope s_part_of) "second" = some .local := by decide +kernel
theorem v_part_of_second : kVis (lk (defScope s_part_of) "second") = true := by rw [k_part_of_second]; rfl
theorem c_part_of_second : kLoc (lk (defScope s_part_of) "second") = true := by rw [k_part_of_second]; rfl
theorem k_part_of_some : lk (defScope s_part_of) "some" = some .local := by decide +kernel
theorem v_part_of_some : kVis (lk (defScope s_part_of) "some") = true := by rw [k_part_of_some]; rfl
theorem c_part_of_some : kLoc (lk (defScope s_part_of) "some") = true := by rw [k_part_of_some]; rfl
theorem v_part_of_sum : lk (defScope s_part_of) "sum" = some .globalImplicit := by decide +kernel
theorem k_part_of_table : lk (defScope s_part_of) "table" = some .local := by decide +kernel
theorem v_part_of_table : kVis (lk (defScope s_part_of) "table") = true := by rw [k_part_of_table]; rfl
theorem c_part_of_table : kLoc (lk (defScope s_part_of) "table") = true := by rw [k_part_of_table]; rfl
theorem k_part_of_things : lk (defScope s_part_of) "things" = some .local := by decide +kernel
theorem v_part_of_things : kVis (lk (defScope s_part_of) "things") = true := by rw [k_part_of_things]; rfl
theorem c_part_of_things : kLoc (lk (defScope s_part_of) "things") = true := by rw [k_part_of_things]; rfl
def m_part_of : Fn := fnM false 6 (sq (asgT (.tp (.cons (.nm 2) (.cons (.nm 3) (.cons (.nm 4) .nil)))) (app m_margins_by (consA (var 0) nilA)))
    (retS (app m_part (consA (blt bSum (consA (lc [5] (.nm 5) (iterS (var 1)) yesT (app m_ways_by (consA (var 5) nilA))) nilA)) (consA (app m_choose (consA (var 2) (consA (var 4) nilA))) nilA)))))
theorem ok_part_of {P : Program} {w : World} {K : Frag} {mg : Str → Option Value} {base : Heap} {ad : Nat → Addr} {fd : Nat → FuncData} (T : TX K mg ad fd) : FnG P w K mg base 3 (ad 23) (fd 23) ["table", "some"] m_part_of := by
  refine fnG_fun T.f_part_of sc_part_of fun X e1 e2 e3 e4 e5 hN hs hc hx hfn hgd hr => ?_
  subst e1 e2 e3 e4 e5
  have nd := sc_part_of.nd
  have hu := hu_room hr
  exact (ok_cons (ok_asgT (ok_app (ok_margins_by T) (hr.mono (by decide)) hgd (gl hs v_part_of_margins_by) T.g_margins_by T.f_margins_by.kp T.b_margins_by rfl (ok_consA (gv 0 hN rfl hs v_part_of_table n_table) ok_nilA (starEach_ok rfl)) (lenA_cons lenA_nil) n_margins_by.dbg rfl) (gt_tup hc (gt_cons (gt 2 hN nd rfl hs c_part_of_things (congrFun hfn _)) (gt_cons (gt 3 hN nd rfl hs c_part_of_first (congrFun hfn _)) (gt_cons (gt 4 hN nd rfl hs c_part_of_second (congrFun hfn _)) gt_nil rfl) rfl) rfl) rfl rfl) (swapsS_no rfl) rfl rfl)
    (ok_one (ok_ret (ok_app (ok_part T) (hr.mono (by decide)) hgd (gl hs v_part_of_part) T.g_part T.f_part.kp T.b_part rfl (ok_consA (ok_blt (ok_sum hc) (gl hs v_part_of_sum) T.z_sum boot_sum (ok_consA (ok_lc (own := [("one", 5)]) hc (hN ▸ nd) (ok_iterS (gv 1 hN rfl hs v_part_of_some n_some)) (blk_of hN hs (by decide +kernel)) ⟨fun _ _ _ _ _ => (gtb 5 hN nd rfl (by decide +kernel)), fun _ _ _ _ _ => ok_yes, fun _ _ _ _ _ => (ok_app (ok_ways_by T) (hr.mono (by decide)) hgd (glb rfl (by decide +kernel)) T.g_ways_by T.f_ways_by.kp T.b_ways_by rfl (ok_consA (gvb 5 hN rfl rfl (by decide +kernel) n_one) ok_nilA (starEach_ok rfl)) (lenA_cons lenA_nil) n_ways_by.dbg rfl)⟩ (own_sub rfl) (fold_no rfl)) ok_nilA (starEach_ok rfl)) n_sum.nn n_sum.dbg rfl) (ok_consA (ok_app (ok_choose T) (hr.mono (by decide)) hgd (gl hs v_part_of_choose) T.g_choose T.f_choose.kp T.b_choose rfl (ok_consA (gv 2 hN rfl hs v_part_of_things n_things) (ok_consA (gv 4 hN rfl hs v_part_of_second n_second) ok_nilA (starEach_ok rfl)) (starEach_ok rfl)) (lenA_cons (lenA_cons lenA_nil)) n_choose.dbg rfl) ok_nilA (starEach_ok rfl)) (starEach_ok rfl)) (lenA_cons (lenA_cons lenA_nil)) n_part.dbg rfl))))
/-! chance_of -/
theorem sc_chance_of : FnScope ["table"] ["table"] (defScope s_chance_of) := ⟨rfl, rfl, rfl, by decide +kernel, rfl, by decide +kernel, by decide +kernel⟩
theorem v_chance_of_check_table : lk (defScope s_chance_of) "check_table" = some .globalImplicit := by decide +kernel
theorem v_chance_of_part_of : lk (defScope s_chance_of) "part_of" = some .globalImplicit := by decide +kernel
theorem k_chance_of_table : lk (defScope s_chance_of) "table" = some .local := by decide +kernel
theorem v_chance_of_table : kVis (lk (defScope s_chance_of) "table") = true := by rw [k_chance_of_table]; rfl
theorem c_chance_of_table : kLoc (lk (defScope s_chance_of) "table") = true := by rw [k_chance_of_table]; rfl
def m_chance_of : Fn := fnM false 1 (sq (drp (app m_check_table (consA (var 0) nilA)))
    (retS (app m_part_of (consA (var 0) (consA (lstE (consA (var 0) nilA)) nilA)))))
theorem ok_chance_of {P : Program} {w : World} {K : Frag} {mg : Str → Option Value} {base : Heap} {ad : Nat → Addr} {fd : Nat → FuncData} (T : TX K mg ad fd) : FnG P w K mg base 6 (ad 24) (fd 24) ["table"] m_chance_of := by
  refine fnG_fun T.f_chance_of sc_chance_of fun X e1 e2 e3 e4 e5 hN hs hc hx hfn hgd hr => ?_
  subst e1 e2 e3 e4 e5
  have nd := sc_chance_of.nd
  have hu := hu_room hr
  exact (ok_cons (ok_drp (ok_app (ok_check_table T) (hr.mono (by decide)) hgd (gl hs v_chance_of_check_table) T.g_check_table T.f_check_table.kp T.b_check_table rfl (ok_consA (gv 0 hN rfl hs v_chance_of_table n_table) ok_nilA (starEach_ok rfl)) (lenA_cons lenA_nil) n_check_table.dbg rfl) (swaps_no rfl))
    (ok_one (ok_ret (ok_app (ok_part_of T) (hr.mono (by decide)) hgd (gl hs v_chance_of_part_of) T.g_part_of T.f_part_of.kp T.b_part_of rfl (ok_consA (gv 0 hN rfl hs v_chance_of_table n_table) (ok_consA (ok_lstE (ok_consA (gv 0 hN rfl hs v_chance_of_table n_table) ok_nilA (starEach_ok rfl))) ok_nilA (starEach_ok rfl)) (starEach_ok rfl)) (lenA_cons (lenA_cons lenA_nil)) n_part_of.dbg rfl))))
/-! alike_by -/
theorem sc_alike_by : FnScope ["table"] ["table"] (defScope s_alike_by) := ⟨rfl, rfl, rfl, by decide +kernel, rfl, by decide +kernel, by decide +kernel⟩
theorem v_alike_by_part : lk (defScope s_alike_by) "part" = some .globalImplicit := by decide +kernel
theorem v_alike_by_sum : lk (defScope s_alike_by) "sum" = some .globalImplicit := by decide +kernel
theorem k_alike_by_table : lk (defScope s_alike_by) "table" = some .local := by decide +kernel
theorem v_alike_by_table : kVis (lk (defScope s_alike_by) "table") = true := by rw [k_alike_by_table]; rfl
theorem c_alike_by_table : kLoc (lk (defScope s_alike_by) "table") = true := by rw [k_alike_by_table]; rfl
def m_alike_by : Fn := fnM false 1 (retS (app m_part (consA (bin gAdd (bin gIdx (var 0) (cst (.int 0))) (bin gIdx (var 0) (cst (.int 3)))) (consA (blt bSum (consA (var 0) nilA)) nilA))))
theorem ok_alike_by {P : Program} {w : World} {K : Frag} {mg : Str → Option Value} {base : Heap} {ad : Nat → Addr} {fd : Nat → FuncData} (T : TX K mg ad fd) : FnG P w K mg base 3 (ad 25) (fd 25) ["table"] m_alike_by := by
  refine fnG_fun T.f_alike_by sc_alike_by fun X e1 e2 e3 e4 e5 hN hs hc hx hfn hgd hr => ?_
  subst e1 e2 e3 e4 e5
  have nd := sc_alike_by.nd
  have hu := hu_room hr
  exact (ok_one (ok_ret (ok_app (ok_part T) (hr.mono (by decide)) hgd (gl hs v_alike_by_part) T.g_part T.f_part.kp T.b_part rfl (ok_consA (ok_bin ok_add (ok_idx (gv 0 hN rfl hs v_alike_by_table n_table) ok_int (plainIx_of rfl)) (ok_idx (gv 0 hN rfl hs v_alike_by_table n_table) ok_int (plainIx_of rfl))) (ok_consA (ok_blt (ok_sum hc) (gl hs v_alike_by_sum) T.z_sum boot_sum (ok_consA (gv 0 hN rfl hs v_alike_by_table n_table) ok_nilA (starEach_ok rfl)) n_sum.nn n_sum.dbg rfl) ok_nilA (starEach_ok rfl)) (starEach_ok rfl)) (lenA_cons (lenA_cons lenA_nil)) n_part.dbg rfl)))
/-! alike_of -/
theorem sc_alike_of : FnScope ["table"] ["table"] (defScope s_alike_of) := ⟨rfl, rfl, rfl, by decide +kernel, rfl, by decide +kernel, by decide +kernel⟩
theorem v_alike_of_alike_by : lk (defScope s_alike_of) "alike_by" = some .globalImplicit := by decide +kernel
theorem v_alike_of_check_table : lk (defScope s_alike_of) "check_table" = some .globalImplicit := by decide +kernel
theorem k_alike_of_table : lk (defScope s_alike_of) "table" = some .local := by decide +kernel
theorem v_alike_of_table : kVis (lk (defScope s_alike_of) "table") = true := by rw [k_alike_of_table]; rfl
theorem c_alike_of_table : kLoc (lk (defScope s_alike_of) "table") = true := by rw [k_alike_of_table]; rfl
def m_alike_of : Fn := fnM false 1 (sq (drp (app m_check_table (consA (var 0) nilA)))
    (retS (app m_alike_by (consA (var 0) nilA))))
theorem ok_alike_of {P : Program} {w : World} {K : Frag} {mg : Str → Option Value} {base : Heap} {ad : Nat → Addr} {fd : Nat → FuncData} (T : TX K mg ad fd) : FnG P w K mg base 6 (ad 26) (fd 26) ["table"] m_alike_of := by
  refine fnG_fun T.f_alike_of sc_alike_of fun X e1 e2 e3 e4 e5 hN hs hc hx hfn hgd hr => ?_
  subst e1 e2 e3 e4 e5
  have nd := sc_alike_of.nd
  have hu := hu_room hr
  exact (ok_cons (ok_drp (ok_app (ok_check_table T) (hr.mono (by decide)) hgd (gl hs v_alike_of_check_table) T.g_check_table T.f_check_table.kp T.b_check_table rfl (ok_consA (gv 0 hN rfl hs v_alike_of_table n_table) ok_nilA (starEach_ok rfl)) (lenA_cons lenA_nil) n_check_table.dbg rfl) (swaps_no rfl))
    (ok_one (ok_ret (ok_app (ok_alike_by T) (hr.mono (by decide)) hgd (gl hs v_alike_of_alike_by) T.g_alike_by T.f_alike_by.kp T.b_alike_by rfl (ok_consA (gv 0 hN rfl hs v_alike_of_table n_table) ok_nilA (starEach_ok rfl)) (lenA_cons lenA_nil) n_alike_by.dbg rfl))))
/-! kappa_of -/
theorem sc_kappa_of : FnScope ["table", "mean", "things", "first", "second"] ["table"] (defScope s_kappa_of) := ⟨rfl, rfl, rfl, by decide +kernel, rfl, by decide +kernel, by decide +kernel⟩
theorem v_kappa_of_alike_by : lk (defScope s_kappa_of) "alike_by" = some .globalImplicit := by decide +kernel
theorem v_kappa_of_check_table : lk (defScope s_kappa_of) "check_table" = some .globalImplicit := by decide +kernel
theorem k_kappa_of_first : lk (defScope s_kappa_of) "first" = some .local := by decide +kernel
theorem v_kappa_of_first : kVis (lk (defScope s_kappa_of) "first") = true := by rw [k_kappa_of_first]; rfl
theorem c_kappa_of_first : kLoc (lk (defScope s_kappa_of) "first") = true := by rw [k_kappa_of_first]; rfl
theorem v_kappa_of_margins_by : lk (defScope s_kappa_of) "margins_by" = some .globalImplicit := by decide +kernel
theorem k_kappa_of_mean : lk (defScope s_kappa_of) "mean" = some .local := by decide +kernel
theorem v_kappa_of_mean : kVis (lk (defScope s_kappa_of) "mean") = true := by rw [k_kappa_of_mean]; rfl
theorem c_kappa_of_mean : kLoc (lk (defScope s_kappa_of) "mean") = true := by rw [k_kappa_of_mean]; rfl
theorem v_kappa_of_minus : lk (defScope s_kappa_of) "minus" = some .globalImplicit := by decide +kernel
theorem v_kappa_of_part : lk (defScope s_kappa_of) "part" = some .globalImplicit := by decide +kernel
theorem k_kappa_of_second : lk (defScope s_kappa_of) "second" = some .local := by decide +kernel
theorem v_kappa_of_second : kVis (lk (defScope s_kappa_of) "second") = true := by rw [k_kappa_of_second]; rfl
theorem c_kappa_of_second : kLoc (lk (defScope s_kappa_of) "second") = true := by rw [k_kappa_of_second]; rfl
theorem k_kappa_of_table : lk (defScope s_kappa_of) "table" = some .local := by decide +kernel
theorem v_kappa_of_table : kVis (lk (defScope s_kappa_of) "table") = true := by rw [k_kappa_of_table]; rfl
theorem c_kappa_of_table : kLoc (lk (defScope s_kappa_of) "table") = true := by rw [k_kappa_of_table]; rfl
theorem k_kappa_of_things : lk (defScope s_kappa_of) "things" = some .local := by decide +kernel
theorem v_kappa_of_things : kVis (lk (defScope s_kappa_of) "things") = true := by rw [k_kappa_of_things]; rfl
theorem c_kappa_of_things : kLoc (lk (defScope s_kappa_of) "things") = true := by rw [k_kappa_of_things]; rfl
theorem v_kappa_of_through : lk (defScope s_kappa_of) "through" = some .globalImplicit := by decide +kernel
def m_kappa_of : Fn := fnM false 5 (sq (drp (app m_check_table (consA (var 0) nilA)))
    (sq (asgT (.tp (.cons (.nm 2) (.cons (.nm 3) (.cons (.nm 4) .nil)))) (app m_margins_by (consA (var 0) nilA)))
    (sq (asg 1 (app m_part (consA (bin gAdd (bin gMul (var 3) (var 4)) (bin gMul (bin gSub (var 2) (var 3)) (bin gSub (var 2) (var 4)))) (consA (bin gMul (var 2) (var 2)) nilA))))
    (retS (ifE (tru (bin gEq (var 1) (tupE (consA (cst (.int 1)) (consA (cst (.int 1)) nilA))))) (cst .none) (app m_through (consA (app m_minus (consA (app m_alike_by (consA (var 0) nilA)) (consA (var 1) nilA))) (consA (app m_minus (consA (tupE (consA (cst (.int 1)) (consA (cst (.int 1)) nilA))) (consA (var 1) nilA))) nilA))))))))
theorem ok_kappa_of {P : Program} {w : World} {K : Frag} {mg : Str → Option Value} {base : Heap} {ad : Nat → Addr} {fd : Nat → FuncData} (T : TX K mg ad fd) : FnG P w K mg base 6 (ad 27) (fd 27) ["table"] m_kappa_of := by
  refine fnG_fun T.f_kappa_of sc_kappa_of fun X e1 e2 e3 e4 e5 hN hs hc hx hfn hgd hr => ?_
  subst e1 e2 e3 e4 e5
  have nd := sc_kappa_of.nd
  have hu := hu_room hr
  exact (ok_cons (ok_drp (ok_app (ok_check_table T) (hr.mono (by decide)) hgd (gl hs v_kappa_of_check_table) T.g_check_table T.f_check_table.kp T.b_check_table rfl (ok_consA (gv 0 hN rfl hs v_kappa_of_table n_table) ok_nilA (starEach_ok rfl)) (lenA_cons lenA_nil) n_check_table.dbg rfl) (swaps_no rfl))
    (ok_cons (ok_asgT (ok_app (ok_margins_by T) (hr.mono (by decide)) hgd (gl hs v_kappa_of_margins_by) T.g_margins_by T.f_margins_by.kp T.b_margins_by rfl (ok_consA (gv 0 hN rfl hs v_kappa_of_table n_table) ok_nilA (starEach_ok rfl)) (lenA_cons lenA_nil) n_margins_by.dbg rfl) (gt_tup hc (gt_cons (gt 2 hN nd rfl hs c_kappa_of_things (congrFun hfn _)) (gt_cons (gt 3 hN nd rfl hs c_kappa_of_first (congrFun hfn _)) (gt_cons (gt 4 hN nd rfl hs c_kappa_of_second (congrFun hfn _)) gt_nil rfl) rfl) rfl) rfl rfl) (swapsS_no rfl) rfl rfl)
    (ok_cons (g_asg 1 hN nd rfl hs c_kappa_of_mean (congrFun hfn _) (ok_app (ok_part T) (hr.mono (by decide)) hgd (gl hs v_kappa_of_part) T.g_part T.f_part.kp T.b_part rfl (ok_consA (ok_bin ok_add (ok_bin ok_mul (gv 3 hN rfl hs v_kappa_of_first n_first) (gv 4 hN rfl hs v_kappa_of_second n_second)) (ok_bin ok_mul (ok_bin ok_sub (gv 2 hN rfl hs v_kappa_of_things n_things) (gv 3 hN rfl hs v_kappa_of_first n_first)) (ok_bin ok_sub (gv 2 hN rfl hs v_kappa_of_things n_things) (gv 4 hN rfl hs v_kappa_of_second n_second)))) (ok_consA (ok_bin ok_mul (gv 2 hN rfl hs v_kappa_of_things n_things) (gv 2 hN rfl hs v_kappa_of_things n_things)) ok_nilA (starEach_ok rfl)) (starEach_ok rfl)) (lenA_cons (lenA_cons lenA_nil)) n_part.dbg rfl) (swaps_no rfl))
    (ok_one (ok_ret (ok_ifE (ok_cmpT (ok_eq hu) (gv 1 hN rfl hs v_kappa_of_mean n_mean) (ok_tupE (ok_consA ok_int (ok_consA ok_int ok_nilA (starEach_ok rfl)) (starEach_ok rfl))) rfl) ok_none (ok_app (ok_through T) (hr.mono (by decide)) hgd (gl hs v_kappa_of_through) T.g_through T.f_through.kp T.b_through rfl (ok_consA (ok_app (ok_minus T) (hr.mono (by decide)) hgd (gl hs v_kappa_of_minus) T.g_minus T.f_minus.kp T.b_minus rfl (ok_consA (ok_app (ok_alike_by T) (hr.mono (by decide)) hgd (gl hs v_kappa_of_alike_by) T.g_alike_by T.f_alike_by.kp T.b_alike_by rfl (ok_consA (gv 0 hN rfl hs v_kappa_of_table n_table) ok_nilA (starEach_ok rfl)) (lenA_cons lenA_nil) n_alike_by.dbg rfl) (ok_consA (gv 1 hN rfl hs v_kappa_of_mean n_mean) ok_nilA (starEach_ok rfl)) (starEach_ok rfl)) (lenA_cons (lenA_cons lenA_nil)) n_minus.dbg rfl) (ok_consA (ok_app (ok_minus T) (hr.mono (by decide)) hgd (gl hs v_kappa_of_minus) T.g_minus T.f_minus.kp T.b_minus rfl (ok_consA (ok_tupE (ok_consA ok_int (ok_consA ok_int ok_nilA (starEach_ok rfl)) (starEach_ok rfl))) (ok_consA (gv 1 hN rfl hs v_kappa_of_mean n_mean) ok_nilA (starEach_ok rfl)) (starEach_ok rfl)) (lenA_cons (lenA_cons lenA_nil)) n_minus.dbg rfl) ok_nilA (starEach_ok rfl)) (starEach_ok rfl)) (lenA_cons (lenA_cons lenA_nil)) n_through.dbg rfl)))))))
/-! alike_between -/
theorem sc_alike_between : FnScope ["margins", "some"] ["margins"] (defScope s_alike_between) := ⟨rfl, rfl, rfl, by decide +kernel, rfl, by decide +kernel, by decide +kernel⟩
theorem v_alike_between_alike_by : lk (defScope s_alike_between) "alike_by" = some .globalImplicit := by decide +kernel
theorem v_alike_between_check_margins : lk (defScope s_alike_between) "check_margins" = some .globalImplicit := by decide +kernel
theorem k_alike_between_margins : lk (defScope s_alike_between) "margins" = some .local := by decide +kernel
theorem v_alike_between_margins : kVis (lk (defScope s_alike_between) "margins") = true := by rw [k_alike_between_margins]; rfl
theorem c_alike_between_margins : kLoc (lk (defScope s_alike_between) "margins") = true := by rw [k_alike_between_margins]; rfl
theorem k_alike_between_some : lk (defScope s_alike_between) "some" = some .local := by decide +kernel
theorem v_alike_between_some : kVis (lk (defScope s_alike_between) "some") = true := by rw [k_alike_between_some]; rfl
theorem c_alike_between_some : kLoc (lk (defScope s_alike_between) "some") = true := by rw [k_alike_between_some]; rfl
theorem v_alike_between_tables_by : lk (defScope s_alike_between) "tables_by" = some .globalImplicit := by decide +kernel
def m_alike_between : Fn := fnM false 2 (sq (drp (app m_check_margins (consA (var 0) nilA)))
    (sq (asg 1 (app m_tables_by (consA (var 0) nilA)))
    (retS (tupE (consA (tupE (consA (app m_alike_by (consA (bin gIdx (var 1) (cst (.int 0))) nilA)) (consA (bin gIdx (var 1) (cst (.int 0))) nilA))) (consA (tupE (consA (app m_alike_by (consA (bin gIdx (var 1) (una gNeg (cst (.int 1)))) nilA)) (consA (bin gIdx (var 1) (una gNeg (cst (.int 1)))) nilA))) nilA))))))
theorem ok_alike_between {P : Program} {w : World} {K : Frag} {mg : Str → Option Value} {base : Heap} {ad : Nat → Addr} {fd : Nat → FuncData} (T : TX K mg ad fd) : FnG P w K mg base 6 (ad 28) (fd 28) ["margins"] m_alike_between := by
  refine fnG_fun T.f_alike_between sc_alike_between fun X e1 e2 e3 e4 e5 hN hs hc hx hfn hgd hr => ?_
  subst e1 e2 e3 e4 e5
  have nd := sc_alike_between.nd
  have hu := hu_room hr
  exact (ok_cons (ok_drp (ok_app (ok_check_margins T) (hr.mono (by decide)) hgd (gl hs v_alike_between_check_margins) T.g_check_margins T.f_check_margins.kp T.b_check_margins rfl (ok_consA (gv 0 hN rfl hs v_alike_between_margins n_margins) ok_nilA (starEach_ok rfl)) (lenA_cons lenA_nil) n_check_margins.dbg rfl) (swaps_no rfl))
    (ok_cons (g_asg 1 hN nd rfl hs c_alike_between_some (congrFun hfn _) (ok_app (ok_tables_by T) (hr.mono (by decide)) hgd (gl hs v_alike_between_tables_by) T.g_tables_by T.f_tables_by.kp T.b_tables_by rfl (ok_consA (gv 0 hN rfl hs v_alike_between_margins n_margins) ok_nilA (starEach_ok rfl)) (lenA_cons lenA_nil) n_tables_by.dbg rfl) (swaps_no rfl))
    (ok_one (ok_ret (ok_tupE (ok_consA (ok_tupE (ok_consA (ok_app (ok_alike_by T) (hr.mono (by decide)) hgd (gl hs v_alike_between_alike_by) T.g_alike_by T.f_alike_by.kp T.b_alike_by rfl (ok_consA (ok_idx (gv 1 hN rfl hs v_alike_between_some n_some) ok_int (plainIx_of rfl)) ok_nilA (starEach_ok rfl)) (lenA_cons lenA_nil) n_alike_by.dbg rfl) (ok_consA (ok_idx (gv 1 hN rfl hs v_alike_between_some n_some) ok_int (plainIx_of rfl)) ok_nilA (starEach_ok rfl)) (starEach_ok rfl))) (ok_consA (ok_tupE (ok_consA (ok_app (ok_alike_by T) (hr.mono (by decide)) hgd (gl hs v_alike_between_alike_by) T.g_alike_by T.f_alike_by.kp T.b_alike_by rfl (ok_consA (ok_idx (gv 1 hN rfl hs v_alike_between_some n_some) (ok_neg ok_int) (plainIx_of rfl)) ok_nilA (starEach_ok rfl)) (lenA_cons lenA_nil) n_alike_by.dbg rfl) (ok_consA (ok_idx (gv 1 hN rfl hs v_alike_between_some n_some) (ok_neg ok_int) (plainIx_of rfl)) ok_nilA (starEach_ok rfl)) (starEach_ok rfl))) ok_nilA (starEach_ok rfl)) (starEach_ok rfl)))))))
/-! share_above_by -/
theorem sc_share_above_by : FnScope ["table", "one"] ["table"] (defScope s_share_above_by) := ⟨rfl, rfl, rfl, by decide +kernel, rfl, by decide +kernel, by decide +kernel⟩
theorem v_share_above_by_margins_by : lk (defScope s_share_above_by) "margins_by" = some .globalImplicit := by decide +kernel
theorem v_share_above_by_part_of : lk (defScope s_share_above_by) "part_of" = some .globalImplicit := by decide +kernel
theorem k_share_above_by_table : lk (defScope s_share_above_by) "table" = some .cell := by decide +kernel
theorem v_share_above_by_table : kVis (lk (defScope s_share_above_by) "table") = true := by rw [k_share_above_by_table]; rfl
theorem c_share_above_by_table : kLoc (lk (defScope s_share_above_by) "table") = true := by rw [k_share_above_by_table]; rfl
theorem v_share_above_by_tables_by : lk (defScope s_share_above_by) "tables_by" = some .globalImplicit := by decide +kernel
def m_share_above_by : Fn := fnM false 2 (retS (app m_part_of (consA (var 0) (consA (lc [1] (.nm 1) (iterS (app m_tables_by (consA (app m_margins_by (consA (var 0) nilA)) nilA))) (tru (bin gGe (bin gIdx (var 1) (cst (.int 0))) (bin gIdx (var 0) (cst (.int 0))))) (var 1)) nilA))))
theorem ok_share_above_by {P : Program} {w : World} {K : Frag} {mg : Str → Option Value} {base : Heap} {ad : Nat → Addr} {fd : Nat → FuncData} (T : TX K mg ad fd) : FnG P w K mg base 4 (ad 29) (fd 29) ["table"] m_share_above_by := by
  refine fnG_fun T.f_share_above_by sc_share_above_by fun X e1 e2 e3 e4 e5 hN hs hc hx hfn hgd hr => ?_
  subst e1 e2 e3 e4 e5
  have nd := sc_share_above_by.nd
  have hu := hu_room hr
  exact (ok_one (ok_ret (ok_app (ok_part_of T) (hr.mono (by decide)) hgd (gl hs v_share_above_by_part_of) T.g_part_of T.f_part_of.kp T.b_part_of rfl (ok_consA (gv 0 hN rfl hs v_share_above_by_table n_table) (ok_consA (ok_lc (own := [("one", 1)]) hc (hN ▸ nd) (ok_iterS (ok_app (ok_tables_by T) (hr.mono (by decide)) hgd (gl hs v_share_above_by_tables_by) T.g_tables_by T.f_tables_by.kp T.b_tables_by rfl (ok_consA (ok_app (ok_margins_by T) (hr.mono (by decide)) hgd (gl hs v_share_above_by_margins_by) T.g_margins_by T.f_margins_by.kp T.b_margins_by rfl (ok_consA (gv 0 hN rfl hs v_share_above_by_table n_table) ok_nilA (starEach_ok rfl)) (lenA_cons lenA_nil) n_margins_by.dbg rfl) ok_nilA (starEach_ok rfl)) (lenA_cons lenA_nil) n_tables_by.dbg rfl)) (blk_of hN hs (by decide +kernel)) ⟨fun _ _ _ _ _ => (gtb 1 hN nd rfl (by decide +kernel)), fun _ _ _ _ _ => (pts_one (ok_cmpT (ok_ge hu) (ok_idx (gvb 1 hN rfl rfl (by decide +kernel) n_one) ok_int (plainIx_of rfl)) (ok_idx (gvb 0 hN rfl rfl (by decide +kernel) n_table) ok_int (plainIx_of rfl)) rfl)), fun _ _ _ _ _ => (gvb 1 hN rfl rfl (by decide +kernel) n_one)⟩ (own_sub rfl) (fold_no rfl)) ok_nilA (starEach_ok rfl)) (starEach_ok rfl)) (lenA_cons (lenA_cons lenA_nil)) n_part_of.dbg rfl)))
/-! share_above -/
theorem sc_share_above : FnScope ["table"] ["table"] (defScope s_share_above) := ⟨rfl, rfl, rfl, by decide +kernel, rfl, by decide +kernel, by decide +kernel⟩
theorem v_share_above_check_table : lk (defScope s_share_above) "check_table" = some .globalImplicit := by decide +kernel
theorem v_share_above_share_above_by : lk (defScope s_share_above) "share_above_by" = some .globalImplicit := by decide +kernel
theorem k_share_above_table : lk (defScope s_share_above) "table" = some .local := by decide +kernel
theorem v_share_above_table : kVis (lk (defScope s_share_above) "table") = true := by rw [k_share_above_table]; rfl
theorem c_share_above_table : kLoc (lk (defScope s_share_above) "table") = true := by rw [k_share_above_table]; rfl
def m_share_above : Fn := fnM false 1 (sq (drp (app m_check_table (consA (var 0) nilA)))
    (retS (app m_share_above_by (consA (var 0) nilA))))
theorem ok_share_above {P : Program} {w : World} {K : Frag} {mg : Str → Option Value} {base : Heap} {ad : Nat → Addr} {fd : Nat → FuncData} (T : TX K mg ad fd) : FnG P w K mg base 6 (ad 30) (fd 30) ["table"] m_share_above := by
  refine fnG_fun T.f_share_above sc_share_above fun X e1 e2 e3 e4 e5 hN hs hc hx hfn hgd hr => ?_
  subst e1 e2 e3 e4 e5
  have nd := sc_share_above.nd
  have hu := hu_room hr
  exact (ok_cons (ok_drp (ok_app (ok_check_table T) (hr.mono (by decide)) hgd (gl hs v_share_above_check_table) T.g_check_table T.f_check_table.kp T.b_check_table rfl (ok_consA (gv 0 hN rfl hs v_share_above_table n_table) ok_nilA (starEach_ok rfl)) (lenA_cons lenA_nil) n_check_table.dbg rfl) (swaps_no rfl))
    (ok_one (ok_ret (ok_app (ok_share_above_by T) (hr.mono (by decide)) hgd (gl hs v_share_above_share_above_by) T.g_share_above_by T.f_share_above_by.kp T.b_share_above_by rfl (ok_consA (gv 0 hN rfl hs v_share_above_table n_table) ok_nilA (starEach_ok rfl)) (lenA_cons lenA_nil) n_share_above_by.dbg rfl))))
/-! share_below -/
theorem sc_share_below : FnScope ["table", "one"] ["table"] (defScope s_share_below) := ⟨rfl, rfl, rfl, by decide +kernel, rfl, by decide +kernel, by decide +kernel⟩
theorem v_share_below_check_table : lk (defScope s_share_below) "check_table" = some .globalImplicit := by decide +kernel
theorem v_share_below_margins_by : lk (defScope s_share_below) "margins_by" = some .globalImplicit := by decide +kernel
theorem v_share_below_part_of : lk (defScope s_share_below) "part_of" = some .globalImplicit := by decide +kernel
theorem k_share_below_table : lk (defScope s_share_below) "table" = some .cell := by decide +kernel
theorem v_share_below_table : kVis (lk (defScope s_share_below) "table") = true := by rw [k_share_below_table]; rfl
theorem c_share_below_table : kLoc (lk (defScope s_share_below) "table") = true := by rw [k_share_below_table]; rfl
theorem v_share_below_tables_by : lk (defScope s_share_below) "tables_by" = some .globalImplicit := by decide +kernel
def m_share_below : Fn := fnM false 2 (sq (drp (app m_check_table (consA (var 0) nilA)))
    (retS (app m_part_of (consA (var 0) (consA (lc [1] (.nm 1) (iterS (app m_tables_by (consA (app m_margins_by (consA (var 0) nilA)) nilA))) (tru (bin gLe (bin gIdx (var 1) (cst (.int 0))) (bin gIdx (var 0) (cst (.int 0))))) (var 1)) nilA)))))
theorem ok_share_below {P : Program} {w : World} {K : Frag} {mg : Str → Option Value} {base : Heap} {ad : Nat → Addr} {fd : Nat → FuncData} (T : TX K mg ad fd) : FnG P w K mg base 6 (ad 31) (fd 31) ["table"] m_share_below := by
  refine fnG_fun T.f_share_below sc_share_below fun X e1 e2 e3 e4 e5 hN hs hc hx hfn hgd hr => ?_
  subst e1 e2 e3 e4 e5
  have nd := sc_share_below.nd
  have hu := hu_room hr
  exact (ok_cons (ok_drp (ok_app (ok_check_table T) (hr.mono (by decide)) hgd (gl hs v_share_below_check_table) T.g_check_table T.f_check_table.kp T.b_check_table rfl (ok_consA (gv 0 hN rfl hs v_share_below_table n_table) ok_nilA (starEach_ok rfl)) (lenA_cons lenA_nil) n_check_table.dbg rfl) (swaps_no rfl))
    (ok_one (ok_ret (ok_app (ok_part_of T) (hr.mono (by decide)) hgd (gl hs v_share_below_part_of) T.g_part_of T.f_part_of.kp T.b_part_of rfl (ok_consA (gv 0 hN rfl hs v_share_below_table n_table) (ok_consA (ok_lc (own := [("one", 1)]) hc (hN ▸ nd) (ok_iterS (ok_app (ok_tables_by T) (hr.mono (by decide)) hgd (gl hs v_share_below_tables_by) T.g_tables_by T.f_tables_by.kp T.b_tables_by rfl (ok_consA (ok_app (ok_margins_by T) (hr.mono (by decide)) hgd (gl hs v_share_below_margins_by) T.g_margins_by T.f_margins_by.kp T.b_margins_by rfl (ok_consA (gv 0 hN rfl hs v_share_below_table n_table) ok_nilA (starEach_ok rfl)) (lenA_cons lenA_nil) n_margins_by.dbg rfl) ok_nilA (starEach_ok rfl)) (lenA_cons lenA_nil) n_tables_by.dbg rfl)) (blk_of hN hs (by decide +kernel)) ⟨fun _ _ _ _ _ => (gtb 1 hN nd rfl (by decide +kernel)), fun _ _ _ _ _ => (pts_one (ok_cmpT (ok_le hu) (ok_idx (gvb 1 hN rfl rfl (by decide +kernel) n_one) ok_int (plainIx_of rfl)) (ok_idx (gvb 0 hN rfl rfl (by decide +kernel) n_table) ok_int (plainIx_of rfl)) rfl)), fun _ _ _ _ _ => (gvb 1 hN rfl rfl (by decide +kernel) n_one)⟩ (own_sub rfl) (fold_no rfl)) ok_nilA (starEach_ok rfl)) (starEach_ok rfl)) (lenA_cons (lenA_cons lenA_nil)) n_part_of.dbg rfl))))
/-! share_apart -/
theorem sc_share_apart : FnScope ["table", "one"] ["table"] (defScope s_share_apart) := ⟨rfl, rfl, rfl, by decide +kernel, rfl, by decide +kernel, by decide +kernel⟩
theorem v_share_apart_check_table : lk (defScope s_share_apart) "check_table" = some .globalImplicit := by decide +kernel
theorem v_share_apart_margins_by : lk (defScope s_share_apart) "margins_by" = some .globalImplicit := by decide +kernel
theorem v_share_apart_part_of : lk (defScope s_share_apart) "part_of" = some .globalImplicit := by decide +kernel
theorem k_share_apart_table : lk (defScope s_share_apart) "table" = some .cell := by decide +kernel
theorem v_share_apart_table : kVis (lk (defScope s_share_apart) "table") = true := by rw [k_share_apart_table]; rfl
theorem c_share_apart_table : kLoc (lk (defScope s_share_apart) "table") = true := by rw [k_share_apart_table]; rfl
theorem v_share_apart_tables_by : lk (defScope s_share_apart) "tables_by" = some .globalImplicit := by decide +kernel
def m_share_apart : Fn := fnM false 2 (sq (drp (app m_check_table (consA (var 0) nilA)))
    (retS (app m_part_of (consA (var 0) (consA (lc [1] (.nm 1) (iterS (app m_tables_by (consA (app m_margins_by (consA (var 0) nilA)) nilA))) (tru (bin gLe (app m_ways_by (consA (var 1) nilA)) (app m_ways_by (consA (var 0) nilA)))) (var 1)) nilA)))))
theorem ok_share_apart {P : Program} {w : World} {K : Frag} {mg : Str → Option Value} {base : Heap} {ad : Nat → Addr} {fd : Nat → FuncData} (T : TX K mg ad fd) : FnG P w K mg base 6 (ad 32) (fd 32) ["table"] m_share_apart := by
  refine fnG_fun T.f_share_apart sc_share_apart fun X e1 e2 e3 e4 e5 hN hs hc hx hfn hgd hr => ?_
  subst e1 e2 e3 e4 e5
  have nd := sc_share_apart.nd
  have hu := hu_room hr
  exact (ok_cons (ok_drp (ok_app (ok_check_table T) (hr.mono (by decide)) hgd (gl hs v_share_apart_check_table) T.g_check_table T.f_check_table.kp T.b_check_table rfl (ok_consA (gv 0 hN rfl hs v_share_apart_table n_table) ok_nilA (starEach_ok rfl)) (lenA_cons lenA_nil) n_check_table.dbg rfl) (swaps_no rfl))
    (ok_one (ok_ret (ok_app (ok_part_of T) (hr.mono (by decide)) hgd (gl hs v_share_apart_part_of) T.g_part_of T.f_part_of.kp T.b_part_of rfl (ok_consA (gv 0 hN rfl hs v_share_apart_table n_table) (ok_consA (ok_lc (own := [("one", 1)]) hc (hN ▸ nd) (ok_iterS (ok_app (ok_tables_by T) (hr.mono (by decide)) hgd (gl hs v_share_apart_tables_by) T.g_tables_by T.f_tables_by.kp T.b_tables_by rfl (ok_consA (ok_app (ok_margins_by T) (hr.mono (by decide)) hgd (gl hs v_share_apart_margins_by) T.g_margins_by T.f_margins_by.kp T.b_margins_by rfl (ok_consA (gv 0 hN rfl hs v_share_apart_table n_table) ok_nilA (starEach_ok rfl)) (lenA_cons lenA_nil) n_margins_by.dbg rfl) ok_nilA (starEach_ok rfl)) (lenA_cons lenA_nil) n_tables_by.dbg rfl)) (blk_of hN hs (by decide +kernel)) ⟨fun _ _ _ _ _ => (gtb 1 hN nd rfl (by decide +kernel)), fun _ _ _ _ _ => (pts_one (ok_cmpT (ok_le hu) (ok_app (ok_ways_by T) (hr.mono (by decide)) hgd (glb rfl (by decide +kernel)) T.g_ways_by T.f_ways_by.kp T.b_ways_by rfl (ok_consA (gvb 1 hN rfl rfl (by decide +kernel) n_one) ok_nilA (starEach_ok rfl)) (lenA_cons lenA_nil) n_ways_by.dbg rfl) (ok_app (ok_ways_by T) (hr.mono (by decide)) hgd (glb rfl (by decide +kernel)) T.g_ways_by T.f_ways_by.kp T.b_ways_by rfl (ok_consA (gvb 0 hN rfl rfl (by decide +kernel) n_table) ok_nilA (starEach_ok rfl)) (lenA_cons lenA_nil) n_ways_by.dbg rfl) rfl)), fun _ _ _ _ _ => (gvb 1 hN rfl rfl (by decide +kernel) n_one)⟩ (own_sub rfl) (fold_no rfl)) ok_nilA (starEach_ok rfl)) (starEach_ok rfl)) (lenA_cons (lenA_cons lenA_nil)) n_part_of.dbg rfl))))
/-! needed -/
theorem sc_needed : FnScope ["margins", "level", "some", "table"] ["margins", "level"] (defScope s_needed) := ⟨rfl, rfl, rfl, by decide +kernel, rfl, by decide +kernel, by decide +kernel⟩
theorem v_needed_check_margins : lk (defScope s_needed) "check_margins" = some .globalImplicit := by decide +kernel
theorem v_needed_is_fraction : lk (defScope s_needed) "is_fraction" = some .globalImplicit := by decide +kernel
theorem k_needed_level : lk (defScope s_needed) "level" = some .cell := by decide +kernel
theorem v_needed_level : kVis (lk (defScope s_needed) "level") = true := by rw [k_needed_level]; rfl
theorem c_needed_level : kLoc (lk (defScope s_needed) "level") = true := by rw [k_needed_level]; rfl
theorem k_needed_margins : lk (defScope s_needed) "margins" = some .local := by decide +kernel
theorem v_needed_margins : kVis (lk (defScope s_needed) "margins") = true := by rw [k_needed_margins]; rfl
theorem c_needed_margins : kLoc (lk (defScope s_needed) "margins") = true := by rw [k_needed_margins]; rfl
theorem k_needed_some : lk (defScope s_needed) "some" = some .local := by decide +kernel
theorem v_needed_some : kVis (lk (defScope s_needed) "some") = true := by rw [k_needed_some]; rfl
theorem c_needed_some : kLoc (lk (defScope s_needed) "some") = true := by rw [k_needed_some]; rfl
theorem v_needed_tables_by : lk (defScope s_needed) "tables_by" = some .globalImplicit := by decide +kernel
def m_needed : Fn := fnM false 4 (sq (drp (app m_check_margins (consA (var 0) nilA)))
    (sq (iff (orT (notT (tru (app m_is_fraction (consA (var 1) nilA)))) (notT (chn (cst (.int 0)) [(.LtE, (bin gIdx (var 1) (cst (.int 0)))), (.LtE, (bin gIdx (var 1) (cst (.int 1))))]))) stk skp)
    (sq (asg 2 (lc [3] (.nm 3) (iterS (app m_tables_by (consA (var 0) nilA))) (notT (tru (app m_is_less (consA (var 1) (consA (app m_share_above_by (consA (var 3) nilA)) nilA))))) (bin gIdx (var 3) (cst (.int 0)))))
    (retS (ifE (tru (bin gEq (var 2) (lstE nilA))) (cst .none) (bin gIdx (var 2) (cst (.int 0))))))))
theorem ok_needed {P : Program} {w : World} {K : Frag} {mg : Str → Option Value} {base : Heap} {ad : Nat → Addr} {fd : Nat → FuncData} (T : TX K mg ad fd) : FnG P w K mg base 6 (ad 33) (fd 33) ["margins", "level"] m_needed := by
  refine fnG_fun T.f_needed sc_needed fun X e1 e2 e3 e4 e5 hN hs hc hx hfn hgd hr => ?_
  subst e1 e2 e3 e4 e5
  have nd := sc_needed.nd
  have hu := hu_room hr
  exact (ok_cons (ok_drp (ok_app (ok_check_margins T) (hr.mono (by decide)) hgd (gl hs v_needed_check_margins) T.g_check_margins T.f_check_margins.kp T.b_check_margins rfl (ok_consA (gv 0 hN rfl hs v_needed_margins n_margins) ok_nilA (starEach_ok rfl)) (lenA_cons lenA_nil) n_check_margins.dbg rfl) (swaps_no rfl))
    (ok_cons (ok_iff (PW.pt (ok_orT (ok_notT (ok_truth (ok_app (ok_is_fraction T) (hr.mono (by decide)) hgd (gl hs v_needed_is_fraction) T.g_is_fraction T.f_is_fraction.kp T.b_is_fraction rfl (ok_consA (gv 1 hN rfl hs v_needed_level n_level) ok_nilA (starEach_ok rfl)) (lenA_cons lenA_nil) n_is_fraction.dbg rfl) (fun _ => rfl))) (pw_or1 (ok_notT (ok_chnT hu ok_int (ChnOk.cons (ok_idx (gv 1 hN rfl hs v_needed_level n_level) ok_int (plainIx_of rfl)) (ChnOk.one (ok_idx (gv 1 hN rfl hs v_needed_level n_level) ok_int (plainIx_of rfl)))) rfl))))) (ok_one ok_stk) ok_nil)
    (ok_cons (g_setLc hN hs sc_needed.kind k_needed_some (i := 2) rfl rfl (by decide +kernel) (own := [("table", 3)]) hc (hN ▸ nd) (ok_iterS (ok_app (ok_tables_by T) (hr.mono (by decide)) hgd (gl hs v_needed_tables_by) T.g_tables_by T.f_tables_by.kp T.b_tables_by rfl (ok_consA (gv 0 hN rfl hs v_needed_margins n_margins) ok_nilA (starEach_ok rfl)) (lenA_cons lenA_nil) n_tables_by.dbg rfl)) (blk_of hN hs (by decide +kernel)) ⟨fun _ _ _ _ _ => (gtb 3 hN nd rfl (by decide +kernel)), fun _ _ _ _ _ => (pts_one (ok_notT (ok_truth (ok_app (ok_is_less T) (hr.mono (by decide)) hgd (glb rfl (by decide +kernel)) T.g_is_less T.f_is_less.kp T.b_is_less rfl (ok_consA (gvb 1 hN rfl rfl (by decide +kernel) n_level) (ok_consA (ok_app (ok_share_above_by T) (hr.mono (by decide)) hgd (glb rfl (by decide +kernel)) T.g_share_above_by T.f_share_above_by.kp T.b_share_above_by rfl (ok_consA (gvb 3 hN rfl rfl (by decide +kernel) n_table) ok_nilA (starEach_ok rfl)) (lenA_cons lenA_nil) n_share_above_by.dbg rfl) ok_nilA (starEach_ok rfl)) (starEach_ok rfl)) (lenA_cons (lenA_cons lenA_nil)) n_is_less.dbg rfl) (fun _ => rfl)))), fun _ _ _ _ _ => (ok_idx (gvb 3 hN rfl rfl (by decide +kernel) n_table) ok_int (plainIx_of rfl))⟩ (own_sub rfl) (fold_no rfl))
    (ok_one (ok_ret (ok_ifE (ok_cmpT (ok_eq hu) (gv 2 hN rfl hs v_needed_some n_some) (ok_lstE ok_nilA) rfl) ok_none (ok_idx (gv 2 hN rfl hs v_needed_some n_some) ok_int (plainIx_of rfl))))))))
/-! _law_pot -/
theorem sc__law_pot : FnScope ["script", "place", "cell", "own", "small"] ["script", "place"] (defScope s__law_pot) := ⟨rfl, rfl, rfl, by decide +kernel, rfl, by decide +kernel, by decide +kernel⟩
theorem v__law_pot_abs : lk (defScope s__law_pot) "abs" = some .globalImplicit := by decide +kernel
theorem k__law_pot_cell : lk (defScope s__law_pot) "cell" = some .local := by decide +kernel
theorem v__law_pot_cell : kVis (lk (defScope s__law_pot) "cell") = true := by rw [k__law_pot_cell]; rfl
theorem c__law_pot_cell : kLoc (lk (defScope s__law_pot) "cell") = true := by rw [k__law_pot_cell]; rfl
theorem v__law_pot_int : lk (defScope s__law_pot) "int" = some .globalImplicit := by decide +kernel
theorem v__law_pot_len : lk (defScope s__law_pot) "len" = some .globalImplicit := by decide +kernel
theorem k__law_pot_own : lk (defScope s__law_pot) "own" = some .local := by decide +kernel
theorem v__law_pot_own : kVis (lk (defScope s__law_pot) "own") = true := by rw [k__law_pot_own]; rfl
theorem c__law_pot_own : kLoc (lk (defScope s__law_pot) "own") = true := by rw [k__law_pot_own]; rfl
theorem k__law_pot_place : lk (defScope s__law_pot) "place" = some .local := by decide +kernel
theorem v__law_pot_place : kVis (lk (defScope s__law_pot) "place") = true := by rw [k__law_pot_place]; rfl
theorem c__law_pot_place : kLoc (lk (defScope s__law_pot) "place") = true := by rw [k__law_pot_place]; rfl
theorem k__law_pot_script : lk (defScope s__law_pot) "script" = some .local := by decide +kernel
theorem v__law_pot_script : kVis (lk (defScope s__law_pot) "script") = true := by rw [k__law_pot_script]; rfl
theorem c__law_pot_script : kLoc (lk (defScope s__law_pot) "script") = true := by rw [k__law_pot_script]; rfl
theorem k__law_pot_small : lk (defScope s__law_pot) "small" = some .local := by decide +kernel
theorem v__law_pot_small : kVis (lk (defScope s__law_pot) "small") = true := by rw [k__law_pot_small]; rfl
theorem c__law_pot_small : kLoc (lk (defScope s__law_pot) "small") = true := by rw [k__law_pot_small]; rfl
theorem v__law_pot_sum : lk (defScope s__law_pot) "sum" = some .globalImplicit := by decide +kernel
def m__law_pot : Fn := fnM true 5 (sq (asg 2 (ifE (tru (bin gLt (var 1) (blt bLen (consA (var 0) nilA)))) (bin gIdx (var 0) (var 1)) (bin gAdd (bin gAdd (bin gMod (blt bInt (consA (blt bSum (consA (slc (var 0) noP (someP (cst (.int 1)))) nilA)) nilA)) (cst (.int 1000003))) (bin gMul (cst (.int 11251)) (var 1))) (cst (.int 13529)))))
    (sq (asg 3 (bin gMul (bin gMod (blt bInt (consA (blt bAbs (consA (var 2) nilA)) nilA)) (bin gPow (bin gPow (cst (.int 10)) (cst (.int 60))) (cst (.int 5)))) (blt bInt (consA (bin gGe (blt bAbs (consA (var 2) nilA)) (bin gPow (cst (.int 10)) (cst (.int 18)))) nilA))))
    (sq (asg 4 (bin gMod (blt bInt (consA (var 2) nilA)) (cst (.int 2305843009213693951))))
    (retS (mutE (consA (var 3) (consA (bin gMod (blt bInt (consA (bin gAdd (bin gAdd (bin gMul (var 4) (cst (.int 142034))) (bin gMul (bin gMul (cst (.int 20613)) (var 1)) (var 1))) (cst (.int 4304))) nilA)) (cst (.int 2305843009213693921))) (consA (cst (.int 0)) nilA))))))))
theorem ok__law_pot {P : Program} {w : World} {K : Frag} {mg : Str → Option Value} {base : Heap} {ad : Nat → Addr} {fd : Nat → FuncData} (T : TX K mg ad fd) : FnG P w K mg base 1 (ad 34) (fd 34) ["script", "place"] m__law_pot := by
  refine fnG_fun T.f__law_pot sc__law_pot fun X e1 e2 e3 e4 e5 hN hs hc hx hfn hgd hr => ?_
  subst e1 e2 e3 e4 e5
  have nd := sc__law_pot.nd
  have hu := hu_room hr
  exact (ok_cons (g_asg 2 hN nd rfl hs c__law_pot_cell (congrFun hfn _) (ok_ifE (ok_cmpT (ok_lt hu) (gv 1 hN rfl hs v__law_pot_place n_place) (ok_blt ok_len (gl hs v__law_pot_len) T.z_len boot_len (ok_consA (gv 0 hN rfl hs v__law_pot_script n_script) ok_nilA (starEach_ok rfl)) n_len.nn n_len.dbg rfl) rfl) (ok_idx (gv 0 hN rfl hs v__law_pot_script n_script) (gv 1 hN rfl hs v__law_pot_place n_place) (plainIx_of rfl)) (ok_bin ok_add (ok_bin ok_add (ok_bin ok_mod (ok_bltT ok_int' (gl hs v__law_pot_int) T.z_int boot_int (ok_consA (ok_blt (ok_sum hc) (gl hs v__law_pot_sum) T.z_sum boot_sum (ok_consA (ok_slc (gv 0 hN rfl hs v__law_pot_script n_script) ok_noP (ok_someP ok_int)) ok_nilA (starEach_ok rfl)) n_sum.nn n_sum.dbg rfl) ok_nilA (starEach_ok rfl)) n_int.nn n_int.dbg rfl) ok_int) (ok_bin ok_mul ok_int (gv 1 hN rfl hs v__law_pot_place n_place))) ok_int)) (swaps_no rfl))
    (ok_cons (g_asg 3 hN nd rfl hs c__law_pot_own (congrFun hfn _) (ok_bin ok_mul (ok_bin ok_mod (ok_bltT ok_int' (gl hs v__law_pot_int) T.z_int boot_int (ok_consA (ok_blt ok_abs (gl hs v__law_pot_abs) T.z_abs boot_abs (ok_consA (gv 2 hN rfl hs v__law_pot_cell n_cell) ok_nilA (starEach_ok rfl)) n_abs.nn n_abs.dbg rfl) ok_nilA (starEach_ok rfl)) n_int.nn n_int.dbg rfl) (ok_bin ok_pow (ok_bin ok_pow ok_int ok_int) ok_int)) (ok_bltT ok_int' (gl hs v__law_pot_int) T.z_int boot_int (ok_consA (ok_cmp1 (ok_ge hu) (ok_blt ok_abs (gl hs v__law_pot_abs) T.z_abs boot_abs (ok_consA (gv 2 hN rfl hs v__law_pot_cell n_cell) ok_nilA (starEach_ok rfl)) n_abs.nn n_abs.dbg rfl) (ok_bin ok_pow ok_int ok_int) rfl) ok_nilA (starEach_ok rfl)) n_int.nn n_int.dbg rfl)) (swaps_no rfl))
    (ok_cons (g_asg 4 hN nd rfl hs c__law_pot_small (congrFun hfn _) (ok_bin ok_mod (ok_bltT ok_int' (gl hs v__law_pot_int) T.z_int boot_int (ok_consA (gv 2 hN rfl hs v__law_pot_cell n_cell) ok_nilA (starEach_ok rfl)) n_int.nn n_int.dbg rfl) ok_int) (swaps_no rfl))
    (ok_one (ok_ret (ok_mutE (ok_consA (gv 3 hN rfl hs v__law_pot_own n_own) (ok_consA (ok_bin ok_mod (ok_bltT ok_int' (gl hs v__law_pot_int) T.z_int boot_int (ok_consA (ok_bin ok_add (ok_bin ok_add (ok_bin ok_mul (gv 4 hN rfl hs v__law_pot_small n_small) ok_int) (ok_bin ok_mul (ok_bin ok_mul ok_int (gv 1 hN rfl hs v__law_pot_place n_place)) (gv 1 hN rfl hs v__law_pot_place n_place))) ok_int) ok_nilA (starEach_ok rfl)) n_int.nn n_int.dbg rfl) ok_int) (ok_consA ok_int ok_nilA (starEach_ok rfl)) (starEach_ok rfl)) (starEach_ok rfl))))))))
/-! _law_take -/
theorem sc__law_take : FnScope ["pot", "upto", "odd", "blend", "digit"] ["pot", "upto"] (defScope s__law_take) := ⟨rfl, rfl, rfl, by decide +kernel, rfl, by decide +kernel, by decide +kernel⟩
theorem k__law_take_blend : lk (defScope s__law_take) "blend" = some .local := by decide +kernel
theorem v__law_take_blend : kVis (lk (defScope s__law_take) "blend") = true := by rw [k__law_take_blend]; rfl
theorem c__law_take_blend : kLoc (lk (defScope s__law_take) "blend") = true := by rw [k__law_take_blend]; rfl
theorem k__law_take_digit : lk (defScope s__law_take) "digit" = some .local := by decide +kernel
theorem v__law_take_digit : kVis (lk (defScope s__law_take) "digit") = true := by rw [k__law_take_digit]; rfl
theorem c__law_take_digit : kLoc (lk (defScope s__law_take) "digit") = true := by rw [k__law_take_digit]; rfl
theorem v__law_take_int : lk (defScope s__law_take) "int" = some .globalImplicit := by decide +kernel
theorem k__law_take_odd : lk (defScope s__law_take) "odd" = some .local := by decide +kernel
theorem v__law_take_odd : kVis (lk (defScope s__law_take) "odd") = true := by rw [k__law_take_odd]; rfl
theorem c__law_take_odd : kLoc (lk (defScope s__law_take) "odd") = true := by rw [k__law_take_odd]; rfl
theorem k__law_take_pot : lk (defScope s__law_take) "pot" = some .local := by decide +kernel
theorem v__law_take_pot : kVis (lk (defScope s__law_take) "pot") = true := by rw [k__law_take_pot]; rfl
theorem c__law_take_pot : kLoc (lk (defScope s__law_take) "pot") = true := by rw [k__law_take_pot]; rfl
theorem k__law_take_upto : lk (defScope s__law_take) "upto" = some .local := by decide +kernel
theorem v__law_take_upto : kVis (lk (defScope s__law_take) "upto") = true := by rw [k__law_take_upto]; rfl
theorem c__law_take_upto : kLoc (lk (defScope s__law_take) "upto") = true := by rw [k__law_take_upto]; rfl
def m__law_take : Fn := fnM false 5 (sq (iff (tru (bin gGt (bin gIdx (var 0) (cst (.int 0))) (cst (.int 0)))) (sq (asg 4 (bin gMod (blt bInt (consA (bin gIdx (var 0) (cst (.int 0))) nilA)) (var 1)))
    (sq (setS (var 0) (cst (.int 0)) (bin gDiv (bin gIdx (var 0) (cst (.int 0))) (var 1)))
    (retS (blt bInt (consA (var 4) nilA))))) skp)
    (sq (setS (var 0) (cst (.int 2)) (bin gAdd (bin gIdx (var 0) (cst (.int 2))) (cst (.int 1))))
    (sq (asg 2 (bin gIdx (lstE (consA (cst (.int 2147483647)) (consA (cst (.int 2147483629)) (consA (cst (.int 2147483587)) (consA (cst (.int 2147483579)) nilA))))) (bin gMod (blt bInt (consA (bin gIdx (var 0) (cst (.int 2))) nilA)) (cst (.int 4)))))
    (sq (asg 3 (bin gMod (blt bInt (consA (bin gPow (blt bInt (consA (bin gAdd (bin gAdd (bin gIdx (var 0) (cst (.int 1))) (bin gMul (bin gMul (cst (.int 155353)) (bin gIdx (var 0) (cst (.int 2)))) (bin gIdx (var 0) (cst (.int 2))))) (cst (.int 3713))) nilA)) (cst (.int 3))) nilA)) (var 2)))
    (retS (blt bInt (consA (bin gMod (blt bInt (consA (bin gDiv (bin gMul (var 3) (bin gAdd (bin gMod (blt bInt (consA (var 3) nilA)) (cst (.int 10007))) (bin gMul (cst (.int 10759)) (bin gIdx (var 0) (cst (.int 2)))))) (cst (.int 307))) nilA)) (var 1)) nilA)))))))
theorem ok__law_take {P : Program} {w : World} {K : Frag} {mg : Str → Option Value} {base : Heap} {ad : Nat → Addr} {fd : Nat → FuncData} (T : TX K mg ad fd) : FnG P w K mg base 1 (ad 35) (fd 35) ["pot", "upto"] m__law_take := by
  refine fnG_fun T.f__law_take sc__law_take fun X e1 e2 e3 e4 e5 hN hs hc hx hfn hgd hr => ?_
  subst e1 e2 e3 e4 e5
  have nd := sc__law_take.nd
  have hu := hu_room hr
  exact (ok_cons (ok_iff (ok_cmpT (ok_gt hu) (ok_idx (gv 0 hN rfl hs v__law_take_pot n_pot) ok_int (plainIx_of rfl)) ok_int rfl) (ok_cons (g_asg 4 hN nd rfl hs c__law_take_digit (congrFun hfn _) (ok_bin ok_mod (ok_bltT ok_int' (gl hs v__law_take_int) T.z_int boot_int (ok_consA (ok_idx (gv 0 hN rfl hs v__law_take_pot n_pot) ok_int (plainIx_of rfl)) ok_nilA (starEach_ok rfl)) n_int.nn n_int.dbg rfl) (gv 1 hN rfl hs v__law_take_upto n_upto)) (swaps_no rfl))
    (ok_cons (ok_setS (gv 0 hN rfl hs v__law_take_pot n_pot) ok_int (ok_bin ok_div (ok_idx (gv 0 hN rfl hs v__law_take_pot n_pot) ok_int (plainIx_of rfl)) (gv 1 hN rfl hs v__law_take_upto n_upto)) rfl (swapsS_no rfl) rfl rfl)
    (ok_one (ok_ret (ok_bltT ok_int' (gl hs v__law_take_int) T.z_int boot_int (ok_consA (gv 4 hN rfl hs v__law_take_digit n_digit) ok_nilA (starEach_ok rfl)) n_int.nn n_int.dbg rfl))))) ok_nil)
    (ok_cons (ok_setS (gv 0 hN rfl hs v__law_take_pot n_pot) ok_int (ok_bin ok_add (ok_idx (gv 0 hN rfl hs v__law_take_pot n_pot) ok_int (plainIx_of rfl)) ok_int) rfl (swapsS_no rfl) rfl rfl)
    (ok_cons (g_asg 2 hN nd rfl hs c__law_take_odd (congrFun hfn _) (ok_idx (ok_lstE (ok_consA ok_int (ok_consA ok_int (ok_consA ok_int (ok_consA ok_int ok_nilA (starEach_ok rfl)) (starEach_ok rfl)) (starEach_ok rfl)) (starEach_ok rfl))) (ok_bin ok_mod (ok_bltT ok_int' (gl hs v__law_take_int) T.z_int boot_int (ok_consA (ok_idx (gv 0 hN rfl hs v__law_take_pot n_pot) ok_int (plainIx_of rfl)) ok_nilA (starEach_ok rfl)) n_int.nn n_int.dbg rfl) ok_int) (plainIx_of rfl)) (swaps_no rfl))
    (ok_cons (g_asg 3 hN nd rfl hs c__law_take_blend (congrFun hfn _) (ok_bin ok_mod (ok_bltT ok_int' (gl hs v__law_take_int) T.z_int boot_int (ok_consA (ok_bin ok_pow (ok_bltT ok_int' (gl hs v__law_take_int) T.z_int boot_int (ok_consA (ok_bin ok_add (ok_bin ok_add (ok_idx (gv 0 hN rfl hs v__law_take_pot n_pot) ok_int (plainIx_of rfl)) (ok_bin ok_mul (ok_bin ok_mul ok_int (ok_idx (gv 0 hN rfl hs v__law_take_pot n_pot) ok_int (plainIx_of rfl))) (ok_idx (gv 0 hN rfl hs v__law_take_pot n_pot) ok_int (plainIx_of rfl)))) ok_int) ok_nilA (starEach_ok rfl)) n_int.nn n_int.dbg rfl) ok_int) ok_nilA (starEach_ok rfl)) n_int.nn n_int.dbg rfl) (gv 2 hN rfl hs v__law_take_odd n_odd)) (swaps_no rfl))
    (ok_one (ok_ret (ok_bltT ok_int' (gl hs v__law_take_int) T.z_int boot_int (ok_consA (ok_bin ok_mod (ok_bltT ok_int' (gl hs v__law_take_int) T.z_int boot_int (ok_consA (ok_bin ok_div (ok_bin ok_mul (gv 3 hN rfl hs v__law_take_blend n_blend) (ok_bin ok_add (ok_bin ok_mod (ok_bltT ok_int' (gl hs v__law_take_int) T.z_int boot_int (ok_consA (gv 3 hN rfl hs v__law_take_blend n_blend) ok_nilA (starEach_ok rfl)) n_int.nn n_int.dbg rfl) ok_int) (ok_bin ok_mul ok_int (ok_idx (gv 0 hN rfl hs v__law_take_pot n_pot) ok_int (plainIx_of rfl))))) ok_int) ok_nilA (starEach_ok rfl)) n_int.nn n_int.dbg rfl) (gv 1 hN rfl hs v__law_take_upto n_upto)) ok_nilA (starEach_ok rfl)) n_int.nn n_int.dbg rfl)))))))
/-! _law_cells -/
theorem sc__law_cells : FnScope ["script", "limit"] ["script", "limit"] (defScope s__law_cells) := ⟨rfl, rfl, rfl, by decide +kernel, rfl, by decide +kernel, by decide +kernel⟩
theorem v__law_cells_len : lk (defScope s__law_cells) "len" = some .globalImplicit := by decide +kernel
theorem k__law_cells_limit : lk (defScope s__law_cells) "limit" = some .local := by decide +kernel
theorem v__law_cells_limit : kVis (lk (defScope s__law_cells) "limit") = true := by rw [k__law_cells_limit]; rfl
theorem c__law_cells_limit : kLoc (lk (defScope s__law_cells) "limit") = true := by rw [k__law_cells_limit]; rfl
theorem v__law_cells_list : lk (defScope s__law_cells) "list" = some .globalImplicit := by decide +kernel
theorem v__law_cells_max : lk (defScope s__law_cells) "max" = some .globalImplicit := by decide +kernel
theorem v__law_cells_min : lk (defScope s__law_cells) "min" = some .globalImplicit := by decide +kernel
theorem v__law_cells_range : lk (defScope s__law_cells) "range" = some .globalImplicit := by decide +kernel
theorem k__law_cells_script : lk (defScope s__law_cells) "script" = some .local := by decide +kernel
theorem v__law_cells_script : kVis (lk (defScope s__law_cells) "script") = true := by rw [k__law_cells_script]; rfl
theorem c__law_cells_script : kLoc (lk (defScope s__law_cells) "script") = true := by rw [k__law_cells_script]; rfl
def m__law_cells : Fn := fnM false 2 (retS (lstRg (blt bMax (consA (cst (.int 1)) (consA (blt bMin (consA (var 1) (consA (blt bLen (consA (var 0) nilA)) nilA))) nilA)))))
theorem ok__law_cells {P : Program} {w : World} {K : Frag} {mg : Str → Option Value} {base : Heap} {ad : Nat → Addr} {fd : Nat → FuncData} (T : TX K mg ad fd) : FnG P w K mg base 1 (ad 36) (fd 36) ["script", "limit"] m__law_cells := by
  refine fnG_fun T.f__law_cells sc__law_cells fun X e1 e2 e3 e4 e5 hN hs hc hx hfn hgd hr => ?_
  subst e1 e2 e3 e4 e5
  have nd := sc__law_cells.nd
  have hu := hu_room hr
  exact (ok_one (ok_ret (ok_lstRg hc (gl hs v__law_cells_list) T.z_list (gl hs v__law_cells_range) T.z_range (ok_blt (ok_max hc) (gl hs v__law_cells_max) T.z_max boot_max (ok_consA ok_int (ok_consA (ok_blt (ok_min hc) (gl hs v__law_cells_min) T.z_min boot_min (ok_consA (gv 1 hN rfl hs v__law_cells_limit n_limit) (ok_consA (ok_blt ok_len (gl hs v__law_cells_len) T.z_len boot_len (ok_consA (gv 0 hN rfl hs v__law_cells_script n_script) ok_nilA (starEach_ok rfl)) n_len.nn n_len.dbg rfl) ok_nilA (starEach_ok rfl)) (starEach_ok rfl)) n_min.nn n_min.dbg rfl) ok_nilA (starEach_ok rfl)) (starEach_ok rfl)) n_max.nn n_max.dbg rfl))))
/-! _law_part -/
theorem sc__law_part : FnScope ["top", "low", "one", "other"] ["top", "low"] (defScope s__law_part) := ⟨rfl, rfl, rfl, by decide +kernel, rfl, by decide +kernel, by decide +kernel⟩
theorem v__law_part_abs : lk (defScope s__law_part) "abs" = some .globalImplicit := by decide +kernel
theorem v__law_part_int : lk (defScope s__law_part) "int" = some .globalImplicit := by decide +kernel
theorem k__law_part_low : lk (defScope s__law_part) "low" = some .local := by decide +kernel
theorem v__law_part_low : kVis (lk (defScope s__law_part) "low") = true := by rw [k__law_part_low]; rfl
theorem c__law_part_low : kLoc (lk (defScope s__law_part) "low") = true := by rw [k__law_part_low]; rfl
theorem k__law_part_one : lk (defScope s__law_part) "one" = some .local := by decide +kernel
theorem v__law_part_one : kVis (lk (defScope s__law_part) "one") = true := by rw [k__law_part_one]; rfl
theorem c__law_part_one : kLoc (lk (defScope s__law_part) "one") = true := by rw [k__law_part_one]; rfl
theorem k__law_part_other : lk (defScope s__law_part) "other" = some .local := by decide +kernel
theorem v__law_part_other : kVis (lk (defScope s__law_part) "other") = true := by rw [k__law_part_other]; rfl
theorem c__law_part_other : kLoc (lk (defScope s__law_part) "other") = true := by rw [k__law_part_other]; rfl
theorem k__law_part_top : lk (defScope s__law_part) "top" = some .local := by decide +kernel
theorem v__law_part_top : kVis (lk (defScope s__law_part) "top") = true := by rw [k__law_part_top]; rfl
theorem c__law_part_top : kLoc (lk (defScope s__law_part) "top") = true := by rw [k__law_part_top]; rfl
def m__law_part : Fn := fnM false 4 (sq (par2 2 3 (consA (blt bAbs (consA (var 0) nilA)) (consA (blt bAbs (consA (var 1) nilA)) nilA)))
    (sq (whl fuel (tru (bin gNe (var 3) (cst (.int 0)))) (par2 2 3 (consA (var 3) (consA (bin gMod (var 2) (var 3)) nilA))))
    (sq (asg 2 (ifE (tru (bin gLt (var 1) (cst (.int 0)))) (bin gSub (cst (.int 0)) (var 2)) (var 2)))
    (retS (tupE (consA (blt bInt (consA (bin gDiv (var 0) (var 2)) nilA)) (consA (blt bInt (consA (bin gDiv (var 1) (var 2)) nilA)) nilA)))))))
theorem ok__law_part {P : Program} {w : World} {K : Frag} {mg : Str → Option Value} {base : Heap} {ad : Nat → Addr} {fd : Nat → FuncData} (T : TX K mg ad fd) : FnG P w K mg base 1 (ad 37) (fd 37) ["top", "low"] m__law_part := by
  refine fnG_fun T.f__law_part sc__law_part fun X e1 e2 e3 e4 e5 hN hs hc hx hfn hgd hr => ?_
  subst e1 e2 e3 e4 e5
  have nd := sc__law_part.nd
  have hu := hu_room hr
  exact (ok_cons (g_par2 hN hs sc__law_part.kind hc nd rfl rfl (by decide) k__law_part_one k__law_part_other (ok_consA (ok_blt ok_abs (gl hs v__law_part_abs) T.z_abs boot_abs (ok_consA (gv 0 hN rfl hs v__law_part_top n_top) ok_nilA (starEach_ok rfl)) n_abs.nn n_abs.dbg rfl) (ok_consA (ok_blt ok_abs (gl hs v__law_part_abs) T.z_abs boot_abs (ok_consA (gv 1 hN rfl hs v__law_part_low n_low) ok_nilA (starEach_ok rfl)) n_abs.nn n_abs.dbg rfl) ok_nilA (starEach_ok rfl)) (starEach_ok rfl)) (by decide +kernel) rfl rfl)
    (ok_cons (ok_whl fuel hx (ok_cmpT (ok_ne hu) (gv 3 hN rfl hs v__law_part_other n_other) ok_int rfl) (ok_one (g_par2 hN hs sc__law_part.kind hc nd rfl rfl (by decide) k__law_part_one k__law_part_other (ok_consA (gv 3 hN rfl hs v__law_part_other n_other) (ok_consA (ok_bin ok_mod (gv 2 hN rfl hs v__law_part_one n_one) (gv 3 hN rfl hs v__law_part_other n_other)) ok_nilA (starEach_ok rfl)) (starEach_ok rfl)) (by decide +kernel) rfl rfl)))
    (ok_cons (g_asg 2 hN nd rfl hs c__law_part_one (congrFun hfn _) (ok_ifE (ok_cmpT (ok_lt hu) (gv 1 hN rfl hs v__law_part_low n_low) ok_int rfl) (ok_bin ok_sub ok_int (gv 2 hN rfl hs v__law_part_one n_one)) (gv 2 hN rfl hs v__law_part_one n_one)) (swaps_no rfl))
    (ok_one (ok_ret (ok_tupE (ok_consA (ok_bltT ok_int' (gl hs v__law_part_int) T.z_int boot_int (ok_consA (ok_bin ok_div (gv 0 hN rfl hs v__law_part_top n_top) (gv 2 hN rfl hs v__law_part_one n_one)) ok_nilA (starEach_ok rfl)) n_int.nn n_int.dbg rfl) (ok_consA (ok_bltT ok_int' (gl hs v__law_part_int) T.z_int boot_int (ok_consA (ok_bin ok_div (gv 1 hN rfl hs v__law_part_low n_low) (gv 2 hN rfl hs v__law_part_one n_one)) ok_nilA (starEach_ok rfl)) n_int.nn n_int.dbg rfl) ok_nilA (starEach_ok rfl)) (starEach_ok rfl))))))))
/-! _law_plus -/
theorem sc__law_plus : FnScope ["one", "other"] ["one", "other"] (defScope s__law_plus) := ⟨rfl, rfl, rfl, by decide +kernel, rfl, by decide +kernel, by decide +kernel⟩
theorem v__law_plus__law_part : lk (defScope s__law_plus) "_law_part" = some .globalImplicit := by decide +kernel
theorem k__law_plus_one : lk (defScope s__law_plus) "one" = some .local := by decide +kernel
theorem v__law_plus_one : kVis (lk (defScope s__law_plus) "one") = true := by rw [k__law_plus_one]; rfl
theorem c__law_plus_one : kLoc (lk (defScope s__law_plus) "one") = true := by rw [k__law_plus_one]; rfl
theorem k__law_plus_other : lk (defScope s__law_plus) "other" = some .local := by decide +kernel
theorem v__law_plus_other : kVis (lk (defScope s__law_plus) "other") = true := by rw [k__law_plus_other]; rfl
theorem c__law_plus_other : kLoc (lk (defScope s__law_plus) "other") = true := by rw [k__law_plus_other]; rfl
def m__law_plus : Fn := fnM false 2 (retS (app m__law_part (consA (bin gAdd (bin gMul (bin gIdx (var 0) (cst (.int 0))) (bin gIdx (var 1) (cst (.int 1)))) (bin gMul (bin gIdx (var 1) (cst (.int 0))) (bin gIdx (var 0) (cst (.int 1))))) (consA (bin gMul (bin gIdx (var 0) (cst (.int 1))) (bin gIdx (var 1) (cst (.int 1)))) nilA))))
theorem ok__law_plus {P : Program} {w : World} {K : Frag} {mg : Str → Option Value} {base : Heap} {ad : Nat → Addr} {fd : Nat → FuncData} (T : TX K mg ad fd) : FnG P w K mg base 2 (ad 38) (fd 38) ["one", "other"] m__law_plus := by
  refine fnG_fun T.f__law_plus sc__law_plus fun X e1 e2 e3 e4 e5 hN hs hc hx hfn hgd hr => ?_
  subst e1 e2 e3 e4 e5
  have nd := sc__law_plus.nd
  have hu := hu_room hr
  exact (ok_one (ok_ret (ok_app (ok__law_part T) (hr.mono (by decide)) hgd (gl hs v__law_plus__law_part) T.g__law_part T.f__law_part.kp T.b__law_part rfl (ok_consA (ok_bin ok_add (ok_bin ok_mul (ok_idx (gv 0 hN rfl hs v__law_plus_one n_one) ok_int (plainIx_of rfl)) (ok_idx (gv 1 hN rfl hs v__law_plus_other n_other) ok_int (plainIx_of rfl))) (ok_bin ok_mul (ok_idx (gv 1 hN rfl hs v__law_plus_other n_other) ok_int (plainIx_of rfl)) (ok_idx (gv 0 hN rfl hs v__law_plus_one n_one) ok_int (plainIx_of rfl)))) (ok_consA (ok_bin ok_mul (ok_idx (gv 0 hN rfl hs v__law_plus_one n_one) ok_int (plainIx_of rfl)) (ok_idx (gv 1 hN rfl hs v__law_plus_other n_other) ok_int (plainIx_of rfl))) ok_nilA (starEach_ok rfl)) (starEach_ok rfl)) (lenA_cons (lenA_cons lenA_nil)) n__law_part.dbg rfl)))
/-! _law_sum -/
theorem sc__law_sum : FnScope ["some", "found", "one"] ["some"] (defScope s__law_sum) := ⟨rfl, rfl, rfl, by decide +kernel, rfl, by decide +kernel, by decide +kernel⟩
theorem v__law_sum__law_plus : lk (defScope s__law_sum) "_law_plus" = some .globalImplicit := by decide +kernel
theorem k__law_sum_found : lk (defScope s__law_sum) "found" = some .local := by decide +kernel
theorem v__law_sum_found : kVis (lk (defScope s__law_sum) "found") = true := by rw [k__law_sum_found]; rfl
theorem c__law_sum_found : kLoc (lk (defScope s__law_sum) "found") = true := by rw [k__law_sum_found]; rfl
theorem k__law_sum_one : lk (defScope s__law_sum) "one" = some .local := by decide +kernel
theorem v__law_sum_one : kVis (lk (defScope s__law_sum) "one") = true := by rw [k__law_sum_one]; rfl
theorem c__law_sum_one : kLoc (lk (defScope s__law_sum) "one") = true := by rw [k__law_sum_one]; rfl
theorem k__law_sum_some : lk (defScope s__law_sum) "some" = some .local := by decide +kernel
theorem v__law_sum_some : kVis (lk (defScope s__law_sum) "some") = true := by rw [k__law_sum_some]; rfl
theorem c__law_sum_some : kLoc (lk (defScope s__law_sum) "some") = true := by rw [k__law_sum_some]; rfl
def m__law_sum : Fn := fnM false 3 (sq (asg 1 (tupE (consA (cst (.int 0)) (consA (cst (.int 1)) nilA))))
    (sq (forS (.nm 2) (iterS (var 0)) (asg 1 (app m__law_plus (consA (var 1) (consA (var 2) nilA)))))
    (retS (var 1))))
theorem ok__law_sum {P : Program} {w : World} {K : Frag} {mg : Str → Option Value} {base : Heap} {ad : Nat → Addr} {fd : Nat → FuncData} (T : TX K mg ad fd) : FnG P w K mg base 3 (ad 39) (fd 39) ["some"] m__law_sum := by
  refine fnG_fun T.f__law_sum sc__law_sum fun X e1 e2 e3 e4 e5 hN hs hc hx hfn hgd hr => ?_
  subst e1 e2 e3 e4 e5
  have nd := sc__law_sum.nd
  have hu := hu_room hr
  exact (ok_cons (g_asg 1 hN nd rfl hs c__law_sum_found (congrFun hfn _) (ok_tupE (ok_consA ok_int (ok_consA ok_int ok_nilA (starEach_ok rfl)) (starEach_ok rfl))) (swaps_no rfl))
    (ok_cons (ok_forS hx hc (ok_iterS (gv 0 hN rfl hs v__law_sum_some n_some)) (gt 2 hN nd rfl hs c__law_sum_one (congrFun hfn _)) (ok_one (g_asg 1 hN nd rfl hs c__law_sum_found (congrFun hfn _) (ok_app (ok__law_plus T) (hr.mono (by decide)) hgd (gl hs v__law_sum__law_plus) T.g__law_plus T.f__law_plus.kp T.b__law_plus rfl (ok_consA (gv 1 hN rfl hs v__law_sum_found n_found) (ok_consA (gv 2 hN rfl hs v__law_sum_one n_one) ok_nilA (starEach_ok rfl)) (starEach_ok rfl)) (lenA_cons (lenA_cons lenA_nil)) n__law_plus.dbg rfl) (swaps_no rfl))) (fold_no rfl))
    (ok_one (ok_ret (gv 1 hN rfl hs v__law_sum_found n_found)))))
/-! _law_less -/
theorem sc__law_less : FnScope ["one", "other"] ["one", "other"] (defScope s__law_less) := ⟨rfl, rfl, rfl, by decide +kernel, rfl, by decide +kernel, by decide +kernel⟩
theorem k__law_less_one : lk (defScope s__law_less) "one" = some .local := by decide +kernel
theorem v__law_less_one : kVis (lk (defScope s__law_less) "one") = true := by rw [k__law_less_one]; rfl
theorem c__law_less_one : kLoc (lk (defScope s__law_less) "one") = true := by rw [k__law_less_one]; rfl
theorem k__law_less_other : lk (defScope s__law_less) "other" = some .local := by decide +kernel
theorem v__law_less_other : kVis (lk (defScope s__law_less) "other") = true := by rw [k__law_less_other]; rfl
theorem c__law_less_other : kLoc (lk (defScope s__law_less) "other") = true := by rw [k__law_less_other]; rfl
def m__law_less : Fn := fnM false 2 (retS (bin gLt (bin gMul (bin gIdx (var 0) (cst (.int 0))) (bin gIdx (var 1) (cst (.int 1)))) (bin gMul (bin gIdx (var 1) (cst (.int 0))) (bin gIdx (var 0) (cst (.int 1))))))
theorem ok__law_less {P : Program} {w : World} {K : Frag} {mg : Str → Option Value} {base : Heap} {ad : Nat → Addr} {fd : Nat → FuncData} (T : TX K mg ad fd) : FnG P w K mg base 1 (ad 40) (fd 40) ["one", "other"] m__law_less := by
  refine fnG_fun T.f__law_less sc__law_less fun X e1 e2 e3 e4 e5 hN hs hc hx hfn hgd hr => ?_
  subst e1 e2 e3 e4 e5
  have nd := sc__law_less.nd
  have hu := hu_room hr
  exact (ok_one (ok_ret (ok_cmp1 (ok_lt hu) (ok_bin ok_mul (ok_idx (gv 0 hN rfl hs v__law_less_one n_one) ok_int (plainIx_of rfl)) (ok_idx (gv 1 hN rfl hs v__law_less_other n_other) ok_int (plainIx_of rfl))) (ok_bin ok_mul (ok_idx (gv 1 hN rfl hs v__law_less_other n_other) ok_int (plainIx_of rfl)) (ok_idx (gv 0 hN rfl hs v__law_less_one n_one) ok_int (plainIx_of rfl))) rfl)))
/-! _law_choose -/
theorem sc__law_choose : FnScope ["many", "some", "row", "lap", "one", "other"] ["many", "some"] (defScope s__law_choose) := ⟨rfl, rfl, rfl, by decide +kernel, rfl, by decide +kernel, by decide +kernel⟩
theorem k__law_choose_lap : lk (defScope s__law_choose) "lap" = some .local := by decide +kernel
theorem v__law_choose_lap : kVis (lk (defScope s__law_choose) "lap") = true := by rw [k__law_choose_lap]; rfl
theorem c__law_choose_lap : kLoc (lk (defScope s__law_choose) "lap") = true := by rw [k__law_choose_lap]; rfl
theorem k__law_choose_many : lk (defScope s__law_choose) "many" = some .local := by decide +kernel
theorem v__law_choose_many : kVis (lk (defScope s__law_choose) "many") = true := by rw [k__law_choose_many]; rfl
theorem c__law_choose_many : kLoc (lk (defScope s__law_choose) "many") = true := by rw [k__law_choose_many]; rfl
theorem v__law_choose_range : lk (defScope s__law_choose) "range" = some .globalImplicit := by decide +kernel
theorem k__law_choose_row : lk (defScope s__law_choose) "row" = some .local := by decide +kernel
theorem v__law_choose_row : kVis (lk (defScope s__law_choose) "row") = true := by rw [k__law_choose_row]; rfl
theorem c__law_choose_row : kLoc (lk (defScope s__law_choose) "row") = true := by rw [k__law_choose_row]; rfl
theorem k__law_choose_some : lk (defScope s__law_choose) "some" = some .local := by decide +kernel
theorem v__law_choose_some : kVis (lk (defScope s__law_choose) "some") = true := by rw [k__law_choose_some]; rfl
theorem c__law_choose_some : kLoc (lk (defScope s__law_choose) "some") = true := by rw [k__law_choose_some]; rfl
theorem v__law_choose_zip : lk (defScope s__law_choose) "zip" = some .globalImplicit := by decide +kernel
def m__law_choose : Fn := fnM false 6 (sq (asg 2 (lstE (consA (cst (.int 1)) nilA)))
    (sq (forS (.nm 3) (iterR1 (consA (var 0) nilA)) (asg 2 (bin gAdd (bin gAdd (lstE (consA (cst (.int 1)) nilA)) (lc [4, 5] (.tp (.cons (.nm 4) (.cons (.nm 5) .nil))) (iterZ (consA (var 2) (consA (slc (var 2) (someP (cst (.int 1))) noP) nilA))) yesT (bin gAdd (var 4) (var 5)))) (lstE (consA (cst (.int 1)) nilA)))))
    (retS (bin gIdx (var 2) (var 1)))))
theorem ok__law_choose {P : Program} {w : World} {K : Frag} {mg : Str → Option Value} {base : Heap} {ad : Nat → Addr} {fd : Nat → FuncData} (T : TX K mg ad fd) : FnG P w K mg base 1 (ad 41) (fd 41) ["many", "some"] m__law_choose := by
  refine fnG_fun T.f__law_choose sc__law_choose fun X e1 e2 e3 e4 e5 hN hs hc hx hfn hgd hr => ?_
  subst e1 e2 e3 e4 e5
  have nd := sc__law_choose.nd
  have hu := hu_room hr
  exact (ok_cons (g_asg 2 hN nd rfl hs c__law_choose_row (congrFun hfn _) (ok_lstE (ok_consA ok_int ok_nilA (starEach_ok rfl))) (swaps_no rfl))
    (ok_cons (ok_forS hx hc (ok_iterR1 (gl hs v__law_choose_range) T.z_range (ok_consA (gv 0 hN rfl hs v__law_choose_many n_many) ok_nilA (starEach_ok rfl)) (starEach_ok rfl)) (gt 3 hN nd rfl hs c__law_choose_lap (congrFun hfn _)) (ok_one (g_asg 2 hN nd rfl hs c__law_choose_row (congrFun hfn _) (ok_bin ok_add (ok_bin ok_add (ok_lstE (ok_consA ok_int ok_nilA (starEach_ok rfl))) (ok_lc (own := [("one", 4), ("other", 5)]) hc (hN ▸ nd) (ok_iterZ (gl hs v__law_choose_zip) T.z_zip (ok_consA (gv 2 hN rfl hs v__law_choose_row n_row) (ok_consA (ok_slc (gv 2 hN rfl hs v__law_choose_row n_row) (ok_someP ok_int) ok_noP) ok_nilA (starEach_ok rfl)) (starEach_ok rfl)) (starEach_ok rfl) (back_any rfl)) (blk_of hN hs (by decide +kernel)) ⟨fun _ _ _ _ _ => (gt_tup hc (gt_cons (gtb 4 hN nd rfl (by decide +kernel)) (gt_cons (gtb 5 hN nd rfl (by decide +kernel)) gt_nil rfl) rfl) rfl rfl), fun _ _ _ _ _ => ok_yes, fun _ _ _ _ _ => (ok_bin ok_add (gvb 4 hN rfl rfl (by decide +kernel) n_one) (gvb 5 hN rfl rfl (by decide +kernel) n_other))⟩ (own_sub rfl) (fold_no rfl))) (ok_lstE (ok_consA ok_int ok_nilA (starEach_ok rfl)))) (swaps_no rfl))) (fold_no rfl))
    (ok_one (ok_ret (ok_idx (gv 2 hN rfl hs v__law_choose_row n_row) (gv 1 hN rfl hs v__law_choose_some n_some) (plainIx_of rfl))))))
/-! _law_lots -/
theorem sc__law_lots : FnScope ["many", "size", "found", "at", "lot"] ["many", "size"] (defScope s__law_lots) := ⟨rfl, rfl, rfl, by decide +kernel, rfl, by decide +kernel, by decide +kernel⟩
theorem k__law_lots_at : lk (defScope s__law_lots) "at" = some .cell := by decide +kernel
theorem v__law_lots_at : kVis (lk (defScope s__law_lots) "at") = true := by rw [k__law_lots_at]; rfl
theorem c__law_lots_at : kLoc (lk (defScope s__law_lots) "at") = true := by rw [k__law_lots_at]; rfl
theorem k__law_lots_found : lk (defScope s__law_lots) "found" = some .local := by decide +kernel
theorem v__law_lots_found : kVis (lk (defScope s__law_lots) "found") = true := by rw [k__law_lots_found]; rfl
theorem c__law_lots_found : kLoc (lk (defScope s__law_lots) "found") = true := by rw [k__law_lots_found]; rfl
theorem k__law_lots_many : lk (defScope s__law_lots) "many" = some .local := by decide +kernel
theorem v__law_lots_many : kVis (lk (defScope s__law_lots) "many") = true := by rw [k__law_lots_many]; rfl
theorem c__law_lots_many : kLoc (lk (defScope s__law_lots) "many") = true := by rw [k__law_lots_many]; rfl
theorem v__law_lots_range : lk (defScope s__law_lots) "range" = some .globalImplicit := by decide +kernel
def m__law_lots : Fn := fnM false 5 (sq (asg 2 (lstE (consA (tupE nilA) nilA)))
    (sq (forS (.nm 3) (iterR1 (consA (var 0) nilA)) (asg 2 (bin gAdd (var 2) (lc [4] (.nm 4) (iterS (var 2)) (tru (bin gLt (blt bLen (consA (var 4) nilA)) (var 1))) (bin gAdd (var 4) (tupE (consA (var 3) nilA)))))))
    (retS (lc [4] (.nm 4) (iterS (var 2)) (tru (bin gEq (blt bLen (consA (var 4) nilA)) (var 1))) (var 4)))))
theorem ok__law_lots {P : Program} {w : World} {K : Frag} {mg : Str → Option Value} {base : Heap} {ad : Nat → Addr} {fd : Nat → FuncData} (T : TX K mg ad fd) : FnG P w K mg base 1 (ad 42) (fd 42) ["many", "size"] m__law_lots := by
  refine fnG_fun T.f__law_lots sc__law_lots fun X e1 e2 e3 e4 e5 hN hs hc hx hfn hgd hr => ?_
  subst e1 e2 e3 e4 e5
  have nd := sc__law_lots.nd
  have hu := hu_room hr
  exact (ok_cons (g_asg 2 hN nd rfl hs c__law_lots_found (congrFun hfn _) (ok_lstE (ok_consA (ok_tupE ok_nilA) ok_nilA (starEach_ok rfl))) (swaps_no rfl))
    (ok_cons (ok_forS hx hc (ok_iterR1 (gl hs v__law_lots_range) T.z_range (ok_consA (gv 0 hN rfl hs v__law_lots_many n_many) ok_nilA (starEach_ok rfl)) (starEach_ok rfl)) (gt 3 hN nd rfl hs c__law_lots_at (congrFun hfn _)) (ok_one (g_asg 2 hN nd rfl hs c__law_lots_found (congrFun hfn _) (ok_bin ok_add (gv 2 hN rfl hs v__law_lots_found n_found) (ok_lc (own := [("lot", 4)]) hc (hN ▸ nd) (ok_iterS (gv 2 hN rfl hs v__law_lots_found n_found)) (blk_of hN hs (by decide +kernel)) ⟨fun _ _ _ _ _ => (gtb 4 hN nd rfl (by decide +kernel)), fun _ _ _ _ _ => (pts_one (ok_cmpT (ok_lt hu) (ok_blt ok_len (glb rfl (by decide +kernel)) T.z_len boot_len (ok_consA (gvb 4 hN rfl rfl (by decide +kernel) n_lot) ok_nilA (starEach_ok rfl)) n_len.nn n_len.dbg rfl) (gvb 1 hN rfl rfl (by decide +kernel) n_size) rfl)), fun _ _ _ _ _ => (ok_bin ok_add (gvb 4 hN rfl rfl (by decide +kernel) n_lot) (ok_tupE (ok_consA (gvb 3 hN rfl rfl (by decide +kernel) n_at) ok_nilA (starEach_ok rfl))))⟩ (own_sub rfl) (fold_no rfl))) (swaps_no rfl))) (fold_no rfl))
    (ok_one (ok_ret (ok_lc (own := [("lot", 4)]) hc (hN ▸ nd) (ok_iterS (gv 2 hN rfl hs v__law_lots_found n_found)) (blk_of hN hs (by decide +kernel)) ⟨fun _ _ _ _ _ => (gtb 4 hN nd rfl (by decide +kernel)), fun _ _ _ _ _ => (pts_one (ok_cmpT (ok_eq hu) (ok_blt ok_len (glb rfl (by decide +kernel)) T.z_len boot_len (ok_consA (gvb 4 hN rfl rfl (by decide +kernel) n_lot) ok_nilA (starEach_ok rfl)) n_len.nn n_len.dbg rfl) (gvb 1 hN rfl rfl (by decide +kernel) n_size) rfl)), fun _ _ _ _ _ => (gvb 4 hN rfl rfl (by decide +kernel) n_lot)⟩ (own_sub rfl) (fold_no rfl))))))
/-! _law_kappa -/
theorem sc__law_kappa : FnScope ["table", "met", "many", "first", "second"] ["table"] (defScope s__law_kappa) := ⟨rfl, rfl, rfl, by decide +kernel, rfl, by decide +kernel, by decide +kernel⟩
theorem v__law_kappa__law_part : lk (defScope s__law_kappa) "_law_part" = some .globalImplicit := by decide +kernel
theorem k__law_kappa_first : lk (defScope s__law_kappa) "first" = some .local := by decide +kernel
theorem v__law_kappa_first : kVis (lk (defScope s__law_kappa) "first") = true := by rw [k__law_kappa_first]; rfl
theorem c__law_kappa_first : kLoc (lk (defScope s__law_kappa) "first") = true := by rw [k__law_kappa_first]; rfl
theorem k__law_kappa_many : lk (defScope s__law_kappa) "many" = some .local := by decide +kernel
theorem v__law_kappa_many : kVis (lk (defScope s__law_kappa) "many") = true := by rw [k__law_kappa_many]; rfl
theorem c__law_kappa_many : kLoc (lk (defScope s__law_kappa) "many") = true := by rw [k__law_kappa_many]; rfl
theorem k__law_kappa_met : lk (defScope s__law_kappa) "met" = some .local := by decide +kernel
theorem v__law_kappa_met : kVis (lk (defScope s__law_kappa) "met") = true := by rw [k__law_kappa_met]; rfl
theorem c__law_kappa_met : kLoc (lk (defScope s__law_kappa) "met") = true := by rw [k__law_kappa_met]; rfl
theorem k__law_kappa_second : lk (defScope s__law_kappa) "second" = some .local := by decide +kernel
theorem v__law_kappa_second : kVis (lk (defScope s__law_kappa) "second") = true := by rw [k__law_kappa_second]; rfl
theorem c__law_kappa_second : kLoc (lk (defScope s__law_kappa) "second") = true := by rw [k__law_kappa_second]; rfl
theorem v__law_kappa_sum : lk (defScope s__law_kappa) "sum" = some .globalImplicit := by decide +kernel
theorem k__law_kappa_table : lk (defScope s__law_kappa) "table" = some .local := by decide +kernel
theorem v__law_kappa_table : kVis (lk (defScope s__law_kappa) "table") = true := by rw [k__law_kappa_table]; rfl
theorem c__law_kappa_table : kLoc (lk (defScope s__law_kappa) "table") = true := by rw [k__law_kappa_table]; rfl
def m__law_kappa : Fn := fnM false 5 (sq (par3 2 3 4 (consA (blt bSum (consA (var 0) nilA)) (consA (bin gAdd (bin gIdx (var 0) (cst (.int 0))) (bin gIdx (var 0) (cst (.int 1)))) (consA (bin gAdd (bin gIdx (var 0) (cst (.int 0))) (bin gIdx (var 0) (cst (.int 2)))) nilA))))
    (sq (asg 1 (bin gAdd (bin gMul (var 3) (var 4)) (bin gMul (bin gSub (var 2) (var 3)) (bin gSub (var 2) (var 4)))))
    (retS (ifE (tru (bin gEq (var 1) (bin gMul (var 2) (var 2)))) (cst .none) (app m__law_part (consA (bin gSub (bin gMul (var 2) (bin gAdd (bin gIdx (var 0) (cst (.int 0))) (bin gIdx (var 0) (cst (.int 3))))) (var 1)) (consA (bin gSub (bin gMul (var 2) (var 2)) (var 1)) nilA)))))))
theorem ok__law_kappa {P : Program} {w : World} {K : Frag} {mg : Str → Option Value} {base : Heap} {ad : Nat → Addr} {fd : Nat → FuncData} (T : TX K mg ad fd) : FnG P w K mg base 2 (ad 43) (fd 43) ["table"] m__law_kappa := by
  refine fnG_fun T.f__law_kappa sc__law_kappa fun X e1 e2 e3 e4 e5 hN hs hc hx hfn hgd hr => ?_
  subst e1 e2 e3 e4 e5
  have nd := sc__law_kappa.nd
  have hu := hu_room hr
  exact (ok_cons (g_par3 hN hs sc__law_kappa.kind hc nd rfl rfl rfl (by decide) (by decide) (by decide) k__law_kappa_many k__law_kappa_first k__law_kappa_second (ok_consA (ok_blt (ok_sum hc) (gl hs v__law_kappa_sum) T.z_sum boot_sum (ok_consA (gv 0 hN rfl hs v__law_kappa_table n_table) ok_nilA (starEach_ok rfl)) n_sum.nn n_sum.dbg rfl) (ok_consA (ok_bin ok_add (ok_idx (gv 0 hN rfl hs v__law_kappa_table n_table) ok_int (plainIx_of rfl)) (ok_idx (gv 0 hN rfl hs v__law_kappa_table n_table) ok_int (plainIx_of rfl))) (ok_consA (ok_bin ok_add (ok_idx (gv 0 hN rfl hs v__law_kappa_table n_table) ok_int (plainIx_of rfl)) (ok_idx (gv 0 hN rfl hs v__law_kappa_table n_table) ok_int (plainIx_of rfl))) ok_nilA (starEach_ok rfl)) (starEach_ok rfl)) (starEach_ok rfl)) (by decide +kernel) (by decide +kernel) (by decide +kernel) rfl rfl rfl)
    (ok_cons (g_asg 1 hN nd rfl hs c__law_kappa_met (congrFun hfn _) (ok_bin ok_add (ok_bin ok_mul (gv 3 hN rfl hs v__law_kappa_first n_first) (gv 4 hN rfl hs v__law_kappa_second n_second)) (ok_bin ok_mul (ok_bin ok_sub (gv 2 hN rfl hs v__law_kappa_many n_many) (gv 3 hN rfl hs v__law_kappa_first n_first)) (ok_bin ok_sub (gv 2 hN rfl hs v__law_kappa_many n_many) (gv 4 hN rfl hs v__law_kappa_second n_second)))) (swaps_no rfl))
    (ok_one (ok_ret (ok_ifE (ok_cmpT (ok_eq hu) (gv 1 hN rfl hs v__law_kappa_met n_met) (ok_bin ok_mul (gv 2 hN rfl hs v__law_kappa_many n_many) (gv 2 hN rfl hs v__law_kappa_many n_many)) rfl) ok_none (ok_app (ok__law_part T) (hr.mono (by decide)) hgd (gl hs v__law_kappa__law_part) T.g__law_part T.f__law_part.kp T.b__law_part rfl (ok_consA (ok_bin ok_sub (ok_bin ok_mul (gv 2 hN rfl hs v__law_kappa_many n_many) (ok_bin ok_add (ok_idx (gv 0 hN rfl hs v__law_kappa_table n_table) ok_int (plainIx_of rfl)) (ok_idx (gv 0 hN rfl hs v__law_kappa_table n_table) ok_int (plainIx_of rfl)))) (gv 1 hN rfl hs v__law_kappa_met n_met)) (ok_consA (ok_bin ok_sub (ok_bin ok_mul (gv 2 hN rfl hs v__law_kappa_many n_many) (gv 2 hN rfl hs v__law_kappa_many n_many)) (gv 1 hN rfl hs v__law_kappa_met n_met)) ok_nilA (starEach_ok rfl)) (starEach_ok rfl)) (lenA_cons (lenA_cons lenA_nil)) n__law_part.dbg rfl))))))
/-! _law_is_share_fair -/
theorem sc__law_is_share_fair : FnScope ["ways", "shares", "level", "own"] ["ways", "shares"] (defScope s__law_is_share_fair) := ⟨rfl, rfl, rfl, by decide +kernel, rfl, by decide +kernel, by decide +kernel⟩
theorem v__law_is_share_fair_all : lk (defScope s__law_is_share_fair) "all" = some .globalImplicit := by decide +kernel
theorem k__law_is_share_fair_shares : lk (defScope s__law_is_share_fair) "shares" = some .cell := by decide +kernel
theorem v__law_is_share_fair_shares : kVis (lk (defScope s__law_is_share_fair) "shares") = true := by rw [k__law_is_share_fair_shares]; rfl
theorem c__law_is_share_fair_shares : kLoc (lk (defScope s__law_is_share_fair) "shares") = true := by rw [k__law_is_share_fair_shares]; rfl
def m__law_is_share_fair : Fn := fnM false 4 (retS (blt bAll (consA (lc [2] (.nm 2) (iterS (var 1)) yesT (valT (notT (tru (app m__law_less (consA (var 2) (consA (app m__law_part (consA (blt bLen (consA (lc [3] (.nm 3) (iterS (var 1)) (notT (tru (app m__law_less (consA (var 2) (consA (var 3) nilA))))) (cst (.int 1))) nilA)) (consA (var 0) nilA))) nilA))))))) nilA)))
theorem ok__law_is_share_fair {P : Program} {w : World} {K : Frag} {mg : Str → Option Value} {base : Heap} {ad : Nat → Addr} {fd : Nat → FuncData} (T : TX K mg ad fd) : FnG P w K mg base 2 (ad 44) (fd 44) ["ways", "shares"] m__law_is_share_fair := by
  refine fnG_fun T.f__law_is_share_fair sc__law_is_share_fair fun X e1 e2 e3 e4 e5 hN hs hc hx hfn hgd hr => ?_
  subst e1 e2 e3 e4 e5
  have nd := sc__law_is_share_fair.nd
  have hu := hu_room hr
  exact (ok_one (ok_ret (ok_blt (ok_all hc) (gl hs v__law_is_share_fair_all) T.z_all boot_all (ok_consA (ok_lc (own := [("level", 2)]) hc (hN ▸ nd) (ok_iterS (gv 1 hN rfl hs v__law_is_share_fair_shares n_shares)) (blk_of hN hs (by decide +kernel)) ⟨fun _ _ _ _ _ => (gtb 2 hN nd rfl (by decide +kernel)), fun _ _ _ _ _ => ok_yes, fun _ _ _ _ _ => (ok_not (ok_truth (ok_app (ok__law_less T) (hr.mono (by decide)) hgd (glb rfl (by decide +kernel)) T.g__law_less T.f__law_less.kp T.b__law_less rfl (ok_consA (gvb 2 hN rfl rfl (by decide +kernel) n_level) (ok_consA (ok_app (ok__law_part T) (hr.mono (by decide)) hgd (glb rfl (by decide +kernel)) T.g__law_part T.f__law_part.kp T.b__law_part rfl (ok_consA (ok_blt ok_len (glb rfl (by decide +kernel)) T.z_len boot_len (ok_consA (ok_lc (own := [("own", 3)]) hc (hN ▸ nd) (ok_iterS (gvb 1 hN rfl rfl (by decide +kernel) n_shares)) (blk_of hN (congrArg (relS _) hs) (by decide +kernel)) ⟨fun _ _ _ _ _ => (gtb 3 hN nd rfl (by decide +kernel)), fun _ _ _ _ _ => (pts_one (ok_notT (ok_truth (ok_app (ok__law_less T) (hr.mono (by decide)) hgd (glb rfl (by decide +kernel)) T.g__law_less T.f__law_less.kp T.b__law_less rfl (ok_consA (gvb 2 hN rfl rfl (by decide +kernel) n_level) (ok_consA (gvb 3 hN rfl rfl (by decide +kernel) n_own) ok_nilA (starEach_ok rfl)) (starEach_ok rfl)) (lenA_cons (lenA_cons lenA_nil)) n__law_less.dbg rfl) (fun _ => rfl)))), fun _ _ _ _ _ => ok_int⟩ (own_sub rfl) (fold_no rfl)) ok_nilA (starEach_ok rfl)) n_len.nn n_len.dbg rfl) (ok_consA (gvb 0 hN rfl rfl (by decide +kernel) n_ways) ok_nilA (starEach_ok rfl)) (starEach_ok rfl)) (lenA_cons (lenA_cons lenA_nil)) n__law_part.dbg rfl) ok_nilA (starEach_ok rfl)) (starEach_ok rfl)) (lenA_cons (lenA_cons lenA_nil)) n__law_less.dbg rfl) (fun _ => rfl)) ⟨_, (ok_app (ok__law_less T) (hr.mono (by decide)) hgd (glb rfl (by decide +kernel)) T.g__law_less T.f__law_less.kp T.b__law_less rfl (ok_consA (gvb 2 hN rfl rfl (by decide +kernel) n_level) (ok_consA (ok_app (ok__law_part T) (hr.mono (by decide)) hgd (glb rfl (by decide +kernel)) T.g__law_part T.f__law_part.kp T.b__law_part rfl (ok_consA (ok_blt ok_len (glb rfl (by decide +kernel)) T.z_len boot_len (ok_consA (ok_lc (own := [("own", 3)]) hc (hN ▸ nd) (ok_iterS (gvb 1 hN rfl rfl (by decide +kernel) n_shares)) (blk_of hN (congrArg (relS _) hs) (by decide +kernel)) ⟨fun _ _ _ _ _ => (gtb 3 hN nd rfl (by decide +kernel)), fun _ _ _ _ _ => (pts_one (ok_notT (ok_truth (ok_app (ok__law_less T) (hr.mono (by decide)) hgd (glb rfl (by decide +kernel)) T.g__law_less T.f__law_less.kp T.b__law_less rfl (ok_consA (gvb 2 hN rfl rfl (by decide +kernel) n_level) (ok_consA (gvb 3 hN rfl rfl (by decide +kernel) n_own) ok_nilA (starEach_ok rfl)) (starEach_ok rfl)) (lenA_cons (lenA_cons lenA_nil)) n__law_less.dbg rfl) (fun _ => rfl)))), fun _ _ _ _ _ => ok_int⟩ (own_sub rfl) (fold_no rfl)) ok_nilA (starEach_ok rfl)) n_len.nn n_len.dbg rfl) (ok_consA (gvb 0 hN rfl rfl (by decide +kernel) n_ways) ok_nilA (starEach_ok rfl)) (starEach_ok rfl)) (lenA_cons (lenA_cons lenA_nil)) n__law_part.dbg rfl) ok_nilA (starEach_ok rfl)) (starEach_ok rfl)) (lenA_cons (lenA_cons lenA_nil)) n__law_less.dbg rfl), rfl⟩)⟩ (own_sub rfl) (fold_no rfl)) ok_nilA (starEach_ok rfl)) n_all.nn n_all.dbg rfl)))
/-! _law_are_ways_right -/
theorem sc__law_are_ways_right : FnScope ["pot", "many", "every", "lot", "tables", "table", "numbers", "alike", "level", "some", "first", "second", "both", "ways", "apart", "due", "above", "below", "at", "one"] ["pot"] (defScope s__law_are_ways_right) := ⟨rfl, rfl, rfl, by decide +kernel, rfl, by decide +kernel, by decide +kernel⟩
theorem v__law_are_ways_right__law_is_share_fair : lk (defScope s__law_are_ways_right) "_law_is_share_fair" = some .globalImplicit := by decide +kernel
theorem v__law_are_ways_right__law_kappa : lk (defScope s__law_are_ways_right) "_law_kappa" = some .globalImplicit := by decide +kernel
theorem v__law_are_ways_right__law_lots : lk (defScope s__law_are_ways_right) "_law_lots" = some .globalImplicit := by decide +kernel
theorem v__law_are_ways_right__law_part : lk (defScope s__law_are_ways_right) "_law_part" = some .globalImplicit := by decide +kernel
theorem v__law_are_ways_right__law_sum : lk (defScope s__law_are_ways_right) "_law_sum" = some .globalImplicit := by decide +kernel
theorem v__law_are_ways_right__law_take : lk (defScope s__law_are_ways_right) "_law_take" = some .globalImplicit := by decide +kernel
theorem k__law_are_ways_right_above : lk (defScope s__law_are_ways_right) "above" = some .local := by decide +kernel
theorem v__law_are_ways_right_above : kVis (lk (defScope s__law_are_ways_right) "above") = true := by rw [k__law_are_ways_right_above]; rfl
theorem c__law_are_ways_right_above : kLoc (lk (defScope s__law_are_ways_right) "above") = true := by rw [k__law_are_ways_right_above]; rfl
theorem k__law_are_ways_right_alike : lk (defScope s__law_are_ways_right) "alike" = some .local := by decide +kernel
theorem v__law_are_ways_right_alike : kVis (lk (defScope s__law_are_ways_right) "alike") = true := by rw [k__law_are_ways_right_alike]; rfl
theorem c__law_are_ways_right_alike : kLoc (lk (defScope s__law_are_ways_right) "alike") = true := by rw [k__law_are_ways_right_alike]; rfl
theorem v__law_are_ways_right_alike_between : lk (defScope s__law_are_ways_right) "alike_between" = some .globalImplicit := by decide +kernel
theorem v__law_are_ways_right_alike_of : lk (defScope s__law_are_ways_right) "alike_of" = some .globalImplicit := by decide +kernel
theorem k__law_are_ways_right_apart : lk (defScope s__law_are_ways_right) "apart" = some .local := by decide +kernel
theorem v__law_are_ways_right_apart : kVis (lk (defScope s__law_are_ways_right) "apart") = true := by rw [k__law_are_ways_right_apart]; rfl
theorem c__law_are_ways_right_apart : kLoc (lk (defScope s__law_are_ways_right) "apart") = true := by rw [k__law_are_ways_right_apart]; rfl
theorem v__law_are_ways_right_are_margins : lk (defScope s__law_are_ways_right) "are_margins" = some .globalImplicit := by decide +kernel
theorem k__law_are_ways_right_below : lk (defScope s__law_are_ways_right) "below" = some .local := by decide +kernel
theorem v__law_are_ways_right_below : kVis (lk (defScope s__law_are_ways_right) "below") = true := by rw [k__law_are_ways_right_below]; rfl
theorem c__law_are_ways_right_below : kLoc (lk (defScope s__law_are_ways_right) "below") = true := by rw [k__law_are_ways_right_below]; rfl
theorem k__law_are_ways_right_both : lk (defScope s__law_are_ways_right) "both" = some .local := by decide +kernel
theorem v__law_are_ways_right_both : kVis (lk (defScope s__law_are_ways_right) "both") = true := by rw [k__law_are_ways_right_both]; rfl
theorem c__law_are_ways_right_both : kLoc (lk (defScope s__law_are_ways_right) "both") = true := by rw [k__law_are_ways_right_both]; rfl
theorem v__law_are_ways_right_chance_of : lk (defScope s__law_are_ways_right) "chance_of" = some .globalImplicit := by decide +kernel
theorem k__law_are_ways_right_due : lk (defScope s__law_are_ways_right) "due" = some .local := by decide +kernel
theorem v__law_are_ways_right_due : kVis (lk (defScope s__law_are_ways_right) "due") = true := by rw [k__law_are_ways_right_due]; rfl
theorem c__law_are_ways_right_due : kLoc (lk (defScope s__law_are_ways_right) "due") = true := by rw [k__law_are_ways_right_due]; rfl
theorem k__law_are_ways_right_every : lk (defScope s__law_are_ways_right) "every" = some .cell := by decide +kernel
theorem v__law_are_ways_right_every : kVis (lk (defScope s__law_are_ways_right) "every") = true := by rw [k__law_are_ways_right_every]; rfl
theorem c__law_are_ways_right_every : kLoc (lk (defScope s__law_are_ways_right) "every") = true := by rw [k__law_are_ways_right_every]; rfl
theorem k__law_are_ways_right_first : lk (defScope s__law_are_ways_right) "first" = some .cell := by decide +kernel
theorem v__law_are_ways_right_first : kVis (lk (defScope s__law_are_ways_right) "first") = true := by rw [k__law_are_ways_right_first]; rfl
theorem c__law_are_ways_right_first : kLoc (lk (defScope s__law_are_ways_right) "first") = true := by rw [k__law_are_ways_right_first]; rfl
theorem v__law_are_ways_right_is_table : lk (defScope s__law_are_ways_right) "is_table" = some .globalImplicit := by decide +kernel
theorem v__law_are_ways_right_kappa_of : lk (defScope s__law_are_ways_right) "kappa_of" = some .globalImplicit := by decide +kernel
theorem v__law_are_ways_right_len : lk (defScope s__law_are_ways_right) "len" = some .globalImplicit := by decide +kernel
theorem k__law_are_ways_right_level : lk (defScope s__law_are_ways_right) "level" = some .cell := by decide +kernel
theorem v__law_are_ways_right_level : kVis (lk (defScope s__law_are_ways_right) "level") = true := by rw [k__law_are_ways_right_level]; rfl
theorem c__law_are_ways_right_level : kLoc (lk (defScope s__law_are_ways_right) "level") = true := by rw [k__law_are_ways_right_level]; rfl
theorem k__law_are_ways_right_lot : lk (defScope s__law_are_ways_right) "lot" = some .local := by decide +kernel
theorem v__law_are_ways_right_lot : kVis (lk (defScope s__law_are_ways_right) "lot") = true := by rw [k__law_are_ways_right_lot]; rfl
theorem c__law_are_ways_right_lot : kLoc (lk (defScope s__law_are_ways_right) "lot") = true := by rw [k__law_are_ways_right_lot]; rfl
theorem k__law_are_ways_right_many : lk (defScope s__law_are_ways_right) "many" = some .local := by decide +kernel
theorem v__law_are_ways_right_many : kVis (lk (defScope s__law_are_ways_right) "many") = true := by rw [k__law_are_ways_right_many]; rfl
theorem c__law_are_ways_right_many : kLoc (lk (defScope s__law_are_ways_right) "many") = true := by rw [k__law_are_ways_right_many]; rfl
theorem v__law_are_ways_right_margins_of : lk (defScope s__law_are_ways_right) "margins_of" = some .globalImplicit := by decide +kernel
theorem v__law_are_ways_right_needed : lk (defScope s__law_are_ways_right) "needed" = some .globalImplicit := by decide +kernel
theorem k__law_are_ways_right_numbers : lk (defScope s__law_are_ways_right) "numbers" = some .local := by decide +kernel
theorem v__law_are_ways_right_numbers : kVis (lk (defScope s__law_are_ways_right) "numbers") = true := by rw [k__law_are_ways_right_numbers]; rfl
theorem c__law_are_ways_right_numbers : kLoc (lk (defScope s__law_are_ways_right) "numbers") = true := by rw [k__law_are_ways_right_numbers]; rfl
theorem k__law_are_ways_right_pot : lk (defScope s__law_are_ways_right) "pot" = some .local := by decide +kernel
theorem v__law_are_ways_right_pot : kVis (lk (defScope s__law_are_ways_right) "pot") = true := by rw [k__law_are_ways_right_pot]; rfl
theorem c__law_are_ways_right_pot : kLoc (lk (defScope s__law_are_ways_right) "pot") = true := by rw [k__law_are_ways_right_pot]; rfl
theorem v__law_are_ways_right_repr : lk (defScope s__law_are_ways_right) "repr" = some .globalImplicit := by decide +kernel
theorem k__law_are_ways_right_second : lk (defScope s__law_are_ways_right) "second" = some .local := by decide +kernel
theorem v__law_are_ways_right_second : kVis (lk (defScope s__law_are_ways_right) "second") = true := by rw [k__law_are_ways_right_second]; rfl
theorem c__law_are_ways_right_second : kLoc (lk (defScope s__law_are_ways_right) "second") = true := by rw [k__law_are_ways_right_second]; rfl
theorem v__law_are_ways_right_set : lk (defScope s__law_are_ways_right) "set" = some .globalImplicit := by decide +kernel
theorem v__law_are_ways_right_share_above : lk (defScope s__law_are_ways_right) "share_above" = some .globalImplicit := by decide +kernel
theorem v__law_are_ways_right_share_apart : lk (defScope s__law_are_ways_right) "share_apart" = some .globalImplicit := by decide +kernel
theorem v__law_are_ways_right_share_below : lk (defScope s__law_are_ways_right) "share_below" = some .globalImplicit := by decide +kernel
theorem k__law_are_ways_right_some : lk (defScope s__law_are_ways_right) "some" = some .local := by decide +kernel
theorem v__law_are_ways_right_some : kVis (lk (defScope s__law_are_ways_right) "some") = true := by rw [k__law_are_ways_right_some]; rfl
theorem c__law_are_ways_right_some : kLoc (lk (defScope s__law_are_ways_right) "some") = true := by rw [k__law_are_ways_right_some]; rfl
theorem v__law_are_ways_right_sorted : lk (defScope s__law_are_ways_right) "sorted" = some .globalImplicit := by decide +kernel
theorem k__law_are_ways_right_table : lk (defScope s__law_are_ways_right) "table" = some .cell := by decide +kernel
theorem v__law_are_ways_right_table : kVis (lk (defScope s__law_are_ways_right) "table") = true := by rw [k__law_are_ways_right_table]; rfl
theorem c__law_are_ways_right_table : kLoc (lk (defScope s__law_are_ways_right) "table") = true := by rw [k__law_are_ways_right_table]; rfl
theorem k__law_are_ways_right_tables : lk (defScope s__law_are_ways_right) "tables" = some .local := by decide +kernel
theorem v__law_are_ways_right_tables : kVis (lk (defScope s__law_are_ways_right) "tables") = true := by rw [k__law_are_ways_right_tables]; rfl
theorem c__law_are_ways_right_tables : kLoc (lk (defScope s__law_are_ways_right) "tables") = true := by rw [k__law_are_ways_right_tables]; rfl
theorem v__law_are_ways_right_tables_of : lk (defScope s__law_are_ways_right) "tables_of" = some .globalImplicit := by decide +kernel
theorem v__law_are_ways_right_tuple : lk (defScope s__law_are_ways_right) "tuple" = some .globalImplicit := by decide +kernel
theorem k__law_are_ways_right_ways : lk (defScope s__law_are_ways_right) "ways" = some .cell := by decide +kernel
theorem v__law_are_ways_right_ways : kVis (lk (defScope s__law_are_ways_right) "ways") = true := by rw [k__law_are_ways_right_ways]; rfl
theorem c__law_are_ways_right_ways : kLoc (lk (defScope s__law_are_ways_right) "ways") = true := by rw [k__law_are_ways_right_ways]; rfl
theorem v__law_are_ways_right_ways_of : lk (defScope s__law_are_ways_right) "ways_of" = some .globalImplicit := by decide +kernel
def m__law_are_ways_right : Fn := fnM false 20 (sq (asg 1 (bin gAdd (cst (.int 1)) (app m__law_take (consA (var 0) (consA (cst (.int 8)) nilA)))))
    (sq (asgT (.tp (.cons (.nm 10) (.cons (.nm 11) .nil))) (tupE (consA (app m__law_take (consA (var 0) (consA (bin gAdd (var 1) (cst (.int 1))) nilA))) (consA (app m__law_take (consA (var 0) (consA (bin gAdd (var 1) (cst (.int 1))) nilA))) nilA))))
    (sq (asg 2 (mutE nilA))
    (sq (forS (.nm 3) (iterS (app m__law_lots (consA (var 1) (consA (var 11) nilA)))) (sq (asg 12 (blt bLen (consA (lc [18] (.nm 18) (iterS (var 3)) (tru (bin gLt (var 18) (var 10))) (var 18)) nilA)))
    (drp (appE (var 2) (tupE (consA (var 12) (consA (bin gSub (var 10) (var 12)) (consA (bin gSub (var 11) (var 12)) (consA (bin gAdd (bin gSub (bin gSub (var 1) (var 10)) (var 11)) (var 12)) nilA)))))))))
    (sq (frz 2) (sq (asg 4 (una gSortSet (var 2)))
    (sq (iff (orT (tru (bin gNe (blt bRepr (consA (app m_tables_of (consA (tupE (consA (var 1) (consA (var 10) (consA (var 11) nilA)))) nilA)) nilA)) (blt bRepr (consA (blt bTuple (consA (var 4) nilA)) nilA)))) (tru (bin gIsNot (app m_are_margins (consA (tupE (consA (var 1) (consA (var 10) (consA (var 11) nilA)))) nilA)) (cst (.bool true))))) (retS (cst (.bool false))) skp)
    (sq (forS (.nm 5) (iterS (var 4)) (sq (asg 13 (bin gCount (var 2) (var 5)))
    (sq (par2 16 17 (consA (blt bLen (consA (lc [19] (.nm 19) (iterS (var 2)) (tru (bin gGe (bin gIdx (var 19) (cst (.int 0))) (bin gIdx (var 5) (cst (.int 0))))) (cst (.int 1))) nilA)) (consA (blt bLen (consA (lc [19] (.nm 19) (iterS (var 2)) (tru (bin gLe (bin gIdx (var 19) (cst (.int 0))) (bin gIdx (var 5) (cst (.int 0))))) (cst (.int 1))) nilA)) nilA)))
    (sq (asg 14 (blt bLen (consA (lc [19] (.nm 19) (iterS (var 2)) (tru (bin gLe (bin gCount (var 2) (var 19)) (var 13))) (cst (.int 1))) nilA)))
    (sq (asg 15 (tupE (consA (var 13) (consA (app m__law_part (consA (var 13) (consA (blt bLen (consA (var 2) nilA)) nilA))) (consA (app m__law_part (consA (var 16) (consA (blt bLen (consA (var 2) nilA)) nilA))) (consA (app m__law_part (consA (var 17) (consA (blt bLen (consA (var 2) nilA)) nilA))) (consA (app m__law_part (consA (var 14) (consA (blt bLen (consA (var 2) nilA)) nilA))) nilA)))))))
    (sq (iff (tru (bin gNe (blt bRepr (consA (tupE (consA (app m_ways_of (consA (var 5) nilA)) (consA (app m_chance_of (consA (var 5) nilA)) (consA (app m_share_above (consA (var 5) nilA)) (consA (app m_share_below (consA (var 5) nilA)) (consA (app m_share_apart (consA (var 5) nilA)) nilA)))))) nilA)) (blt bRepr (consA (var 15) nilA)))) (retS (cst (.bool false))) skp)
    (iff (tru (bin gNe (blt bRepr (consA (tupE (consA (app m_margins_of (consA (var 5) nilA)) (consA (app m_alike_of (consA (var 5) nilA)) (consA (app m_kappa_of (consA (var 5) nilA)) nilA)))) nilA)) (blt bRepr (consA (tupE (consA (tupE (consA (var 1) (consA (var 10) (consA (var 11) nilA)))) (consA (app m__law_part (consA (bin gAdd (bin gIdx (var 5) (cst (.int 0))) (bin gIdx (var 5) (cst (.int 3)))) (consA (var 1) nilA))) (consA (app m__law_kappa (consA (var 5) nilA)) nilA)))) nilA)))) (retS (cst (.bool false))) skp)))))))
    (sq (asg 6 (lc [5] (.nm 5) (iterS (var 2)) yesT (app m_kappa_of (consA (var 5) nilA))))
    (sq (iff (orT (tru (bin gNe (app m__law_sum (consA (lc [5] (.nm 5) (iterS (var 2)) yesT (tupE (consA (bin gIdx (var 5) (cst (.int 0))) (consA (cst (.int 1)) nilA)))) nilA)) (app m__law_part (consA (bin gMul (bin gMul (var 10) (var 11)) (blt bLen (consA (var 2) nilA))) (consA (var 1) nilA))))) (tru (bin gIsNot (app m_is_table (consA (bin gIdx (var 2) (cst (.int 0))) nilA)) (cst (.bool true))))) (retS (cst (.bool false))) skp)
    (sq (iff (orT (andT (tru (bin gIn (cst .none) (var 6))) (tru (bin gNe (bin gCount (var 6) (cst .none)) (blt bLen (consA (var 6) nilA))))) (andT (tru (bin gNotIn (cst .none) (var 6))) (tru (bin gNe (app m__law_sum (consA (var 6) nilA)) (tupE (consA (cst (.int 0)) (consA (cst (.int 1)) nilA))))))) (retS (cst (.bool false))) skp)
    (sq (asg 7 (lc [5] (.nm 5) (iterS (var 4)) yesT (app m_alike_of (consA (var 5) nilA))))
    (sq (iff (tru (bin gNe (app m_alike_between (consA (tupE (consA (var 1) (consA (var 10) (consA (var 11) nilA)))) nilA)) (tupE (consA (tupE (consA (bin gIdx (var 7) (cst (.int 0))) (consA (bin gIdx (var 4) (cst (.int 0))) nilA))) (consA (tupE (consA (bin gIdx (var 7) (una gNeg (cst (.int 1)))) (consA (bin gIdx (var 4) (una gNeg (cst (.int 1)))) nilA))) nilA))))) (retS (cst (.bool false))) skp)
    (sq (iff (orT (notT (tru (app m__law_is_share_fair (consA (blt bLen (consA (var 2) nilA)) (consA (lc [19] (.nm 19) (iterS (var 2)) yesT (app m_share_above (consA (var 19) nilA))) nilA))))) (notT (tru (app m__law_is_share_fair (consA (blt bLen (consA (var 2) nilA)) (consA (lc [19] (.nm 19) (iterS (var 2)) yesT (app m_share_apart (consA (var 19) nilA))) nilA)))))) (retS (cst (.bool false))) skp)
    (sq (asg 8 (app m__law_part (consA (app m__law_take (consA (var 0) (consA (cst (.int 21)) nilA))) (consA (cst (.int 20)) nilA))))
    (sq (asg 9 (lc [5] (.nm 5) (iterS (var 4)) (notT (tru (app m__law_less (consA (var 8) (consA (app m_share_above (consA (var 5) nilA)) nilA))))) (bin gIdx (var 5) (cst (.int 0)))))
    (retS (bin gEq (blt bRepr (consA (app m_needed (consA (tupE (consA (var 1) (consA (var 10) (consA (var 11) nilA)))) (consA (var 8) nilA))) nilA)) (blt bRepr (consA (ifE (tru (bin gNe (var 9) (lstE nilA))) (bin gIdx (var 9) (cst (.int 0))) (cst .none)) nilA))))))))))))))))))))
theorem ok__law_are_ways_right {P : Program} {w : World} {K : Frag} {mg : Str → Option Value} {base : Heap} {ad : Nat → Addr} {fd : Nat → FuncData} (T : TX K mg ad fd) : FnG P w K mg base 7 (ad 45) (fd 45) ["pot"] m__law_are_ways_right := by
  refine fnG_fun T.f__law_are_ways_right sc__law_are_ways_right fun X e1 e2 e3 e4 e5 hN hs hc hx hfn hgd hr => ?_
  subst e1 e2 e3 e4 e5
  have nd := sc__law_are_ways_right.nd
  have hu := hu_room hr
  exact (ok_cons (g_asg 1 hN nd rfl hs c__law_are_ways_right_many (congrFun hfn _) (ok_bin ok_add ok_int (ok_app (ok__law_take T) (hr.mono (by decide)) hgd (gl hs v__law_are_ways_right__law_take) T.g__law_take T.f__law_take.kp T.b__law_take rfl (ok_consA (gv 0 hN rfl hs v__law_are_ways_right_pot n_pot) (ok_consA ok_int ok_nilA (starEach_ok rfl)) (starEach_ok rfl)) (lenA_cons (lenA_cons lenA_nil)) n__law_take.dbg rfl)) (swaps_no rfl))
    (ok_cons (ok_asgT (ok_tupE (ok_consA (ok_app (ok__law_take T) (hr.mono (by decide)) hgd (gl hs v__law_are_ways_right__law_take) T.g__law_take T.f__law_take.kp T.b__law_take rfl (ok_consA (gv 0 hN rfl hs v__law_are_ways_right_pot n_pot) (ok_consA (ok_bin ok_add (gv 1 hN rfl hs v__law_are_ways_right_many n_many) ok_int) ok_nilA (starEach_ok rfl)) (starEach_ok rfl)) (lenA_cons (lenA_cons lenA_nil)) n__law_take.dbg rfl) (ok_consA (ok_app (ok__law_take T) (hr.mono (by decide)) hgd (gl hs v__law_are_ways_right__law_take) T.g__law_take T.f__law_take.kp T.b__law_take rfl (ok_consA (gv 0 hN rfl hs v__law_are_ways_right_pot n_pot) (ok_consA (ok_bin ok_add (gv 1 hN rfl hs v__law_are_ways_right_many n_many) ok_int) ok_nilA (starEach_ok rfl)) (starEach_ok rfl)) (lenA_cons (lenA_cons lenA_nil)) n__law_take.dbg rfl) ok_nilA (starEach_ok rfl)) (starEach_ok rfl))) (gt_tup hc (gt_cons (gt 10 hN nd rfl hs c__law_are_ways_right_first (congrFun hfn _)) (gt_cons (gt 11 hN nd rfl hs c__law_are_ways_right_second (congrFun hfn _)) gt_nil rfl) rfl) rfl rfl) (swapsS_no rfl) (swapped_cell2 hs k__law_are_ways_right_first k__law_are_ways_right_second rfl) rfl)
    (ok_cons (g_asg 2 hN nd rfl hs c__law_are_ways_right_every (congrFun hfn _) (ok_mutE ok_nilA) (swaps_no rfl))
    (ok_cons (ok_forS hx hc (ok_iterS (ok_app (ok__law_lots T) (hr.mono (by decide)) hgd (gl hs v__law_are_ways_right__law_lots) T.g__law_lots T.f__law_lots.kp T.b__law_lots rfl (ok_consA (gv 1 hN rfl hs v__law_are_ways_right_many n_many) (ok_consA (gv 11 hN rfl hs v__law_are_ways_right_second n_second) ok_nilA (starEach_ok rfl)) (starEach_ok rfl)) (lenA_cons (lenA_cons lenA_nil)) n__law_lots.dbg rfl)) (gt 3 hN nd rfl hs c__law_are_ways_right_lot (congrFun hfn _)) (ok_cons (g_asg 12 hN nd rfl hs c__law_are_ways_right_both (congrFun hfn _) (ok_blt ok_len (gl hs v__law_are_ways_right_len) T.z_len boot_len (ok_consA (ok_lc (own := [("at", 18)]) hc (hN ▸ nd) (ok_iterS (gv 3 hN rfl hs v__law_are_ways_right_lot n_lot)) (blk_of hN hs (by decide +kernel)) ⟨fun _ _ _ _ _ => (gtb 18 hN nd rfl (by decide +kernel)), fun _ _ _ _ _ => (pts_one (ok_cmpT (ok_lt hu) (gvb 18 hN rfl rfl (by decide +kernel) n_at) (gvb 10 hN rfl rfl (by decide +kernel) n_first) rfl)), fun _ _ _ _ _ => (gvb 18 hN rfl rfl (by decide +kernel) n_at)⟩ (own_sub rfl) (fold_no rfl)) ok_nilA (starEach_ok rfl)) n_len.nn n_len.dbg rfl) (swaps_no rfl))
    (ok_one (ok_drp (ok_appE (gv 2 hN rfl hs v__law_are_ways_right_every n_every) (ok_tupE (ok_consA (gv 12 hN rfl hs v__law_are_ways_right_both n_both) (ok_consA (ok_bin ok_sub (gv 10 hN rfl hs v__law_are_ways_right_first n_first) (gv 12 hN rfl hs v__law_are_ways_right_both n_both)) (ok_consA (ok_bin ok_sub (gv 11 hN rfl hs v__law_are_ways_right_second n_second) (gv 12 hN rfl hs v__law_are_ways_right_both n_both)) (ok_consA (ok_bin ok_add (ok_bin ok_sub (ok_bin ok_sub (gv 1 hN rfl hs v__law_are_ways_right_many n_many) (gv 10 hN rfl hs v__law_are_ways_right_first n_first)) (gv 11 hN rfl hs v__law_are_ways_right_second n_second)) (gv 12 hN rfl hs v__law_are_ways_right_both n_both)) ok_nilA (starEach_ok rfl)) (starEach_ok rfl)) (starEach_ok rfl)) (starEach_ok rfl))) rfl rfl rfl) (swaps_no rfl)))) (fold_no rfl))
    (ok_frz 2 (ok_cons (g_asg 4 hN nd rfl hs c__law_are_ways_right_tables (congrFun hfn _) (ok_sortSet hc hu (gl hs v__law_are_ways_right_sorted) T.z_sorted (gl hs v__law_are_ways_right_set) T.z_set (gv 2 hN rfl hs v__law_are_ways_right_every n_every)) (swaps_no rfl))
    (ok_cons (ok_iff (PW.pt (ok_orT (ok_cmpT (ok_ne hu) (ok_blt (ok_repr hu hgd) (gl hs v__law_are_ways_right_repr) T.z_repr boot_repr (ok_consA (ok_app (ok_tables_of T) (hr.mono (by decide)) hgd (gl hs v__law_are_ways_right_tables_of) T.g_tables_of T.f_tables_of.kp T.b_tables_of rfl (ok_consA (ok_tupE (ok_consA (gv 1 hN rfl hs v__law_are_ways_right_many n_many) (ok_consA (gv 10 hN rfl hs v__law_are_ways_right_first n_first) (ok_consA (gv 11 hN rfl hs v__law_are_ways_right_second n_second) ok_nilA (starEach_ok rfl)) (starEach_ok rfl)) (starEach_ok rfl))) ok_nilA (starEach_ok rfl)) (lenA_cons lenA_nil) n_tables_of.dbg rfl) ok_nilA (starEach_ok rfl)) n_repr.nn n_repr.dbg rfl) (ok_blt (ok_repr hu hgd) (gl hs v__law_are_ways_right_repr) T.z_repr boot_repr (ok_consA (ok_bltT ok_tuple (gl hs v__law_are_ways_right_tuple) T.z_tuple boot_tuple (ok_consA (gv 4 hN rfl hs v__law_are_ways_right_tables n_tables) ok_nilA (starEach_ok rfl)) n_tuple.nn n_tuple.dbg rfl) ok_nilA (starEach_ok rfl)) n_repr.nn n_repr.dbg rfl) rfl) (pw_or1 (ok_cmpT (ok_isNot) (ok_app (ok_are_margins T) (hr.mono (by decide)) hgd (gl hs v__law_are_ways_right_are_margins) T.g_are_margins T.f_are_margins.kp T.b_are_margins rfl (ok_consA (ok_tupE (ok_consA (gv 1 hN rfl hs v__law_are_ways_right_many n_many) (ok_consA (gv 10 hN rfl hs v__law_are_ways_right_first n_first) (ok_consA (gv 11 hN rfl hs v__law_are_ways_right_second n_second) ok_nilA (starEach_ok rfl)) (starEach_ok rfl)) (starEach_ok rfl))) ok_nilA (starEach_ok rfl)) (lenA_cons lenA_nil) n_are_margins.dbg rfl) ok_bool rfl)))) (ok_one (ok_ret ok_bool)) ok_nil)
    (ok_cons (ok_forS hx hc (ok_iterS (gv 4 hN rfl hs v__law_are_ways_right_tables n_tables)) (gt 5 hN nd rfl hs c__law_are_ways_right_table (congrFun hfn _)) (ok_cons (g_asg 13 hN nd rfl hs c__law_are_ways_right_ways (congrFun hfn _) (ok_count hu (gv 2 hN rfl hs v__law_are_ways_right_every n_every) (gv 5 hN rfl hs v__law_are_ways_right_table n_table) rfl rfl rfl) (swaps_no rfl))
    (ok_cons (g_par2 hN hs sc__law_are_ways_right.kind hc nd rfl rfl (by decide) k__law_are_ways_right_above k__law_are_ways_right_below (ok_consA (ok_blt ok_len (gl hs v__law_are_ways_right_len) T.z_len boot_len (ok_consA (ok_lc (own := [("one", 19)]) hc (hN ▸ nd) (ok_iterS (gv 2 hN rfl hs v__law_are_ways_right_every n_every)) (blk_of hN hs (by decide +kernel)) ⟨fun _ _ _ _ _ => (gtb 19 hN nd rfl (by decide +kernel)), fun _ _ _ _ _ => (pts_one (ok_cmpT (ok_ge hu) (ok_idx (gvb 19 hN rfl rfl (by decide +kernel) n_one) ok_int (plainIx_of rfl)) (ok_idx (gvb 5 hN rfl rfl (by decide +kernel) n_table) ok_int (plainIx_of rfl)) rfl)), fun _ _ _ _ _ => ok_int⟩ (own_sub rfl) (fold_no rfl)) ok_nilA (starEach_ok rfl)) n_len.nn n_len.dbg rfl) (ok_consA (ok_blt ok_len (gl hs v__law_are_ways_right_len) T.z_len boot_len (ok_consA (ok_lc (own := [("one", 19)]) hc (hN ▸ nd) (ok_iterS (gv 2 hN rfl hs v__law_are_ways_right_every n_every)) (blk_of hN hs (by decide +kernel)) ⟨fun _ _ _ _ _ => (gtb 19 hN nd rfl (by decide +kernel)), fun _ _ _ _ _ => (pts_one (ok_cmpT (ok_le hu) (ok_idx (gvb 19 hN rfl rfl (by decide +kernel) n_one) ok_int (plainIx_of rfl)) (ok_idx (gvb 5 hN rfl rfl (by decide +kernel) n_table) ok_int (plainIx_of rfl)) rfl)), fun _ _ _ _ _ => ok_int⟩ (own_sub rfl) (fold_no rfl)) ok_nilA (starEach_ok rfl)) n_len.nn n_len.dbg rfl) ok_nilA (starEach_ok rfl)) (starEach_ok rfl)) (by decide +kernel) rfl rfl)
    (ok_cons (g_asg 14 hN nd rfl hs c__law_are_ways_right_apart (congrFun hfn _) (ok_blt ok_len (gl hs v__law_are_ways_right_len) T.z_len boot_len (ok_consA (ok_lc (own := [("one", 19)]) hc (hN ▸ nd) (ok_iterS (gv 2 hN rfl hs v__law_are_ways_right_every n_every)) (blk_of hN hs (by decide +kernel)) ⟨fun _ _ _ _ _ => (gtb 19 hN nd rfl (by decide +kernel)), fun _ _ _ _ _ => (pts_one (ok_cmpT (ok_le hu) (ok_count hu (gvb 2 hN rfl rfl (by decide +kernel) n_every) (gvb 19 hN rfl rfl (by decide +kernel) n_one) rfl rfl rfl) (gvb 13 hN rfl rfl (by decide +kernel) n_ways) rfl)), fun _ _ _ _ _ => ok_int⟩ (own_sub rfl) (fold_no rfl)) ok_nilA (starEach_ok rfl)) n_len.nn n_len.dbg rfl) (swaps_no rfl))
    (ok_cons (g_asg 15 hN nd rfl hs c__law_are_ways_right_due (congrFun hfn _) (ok_tupE (ok_consA (gv 13 hN rfl hs v__law_are_ways_right_ways n_ways) (ok_consA (ok_app (ok__law_part T) (hr.mono (by decide)) hgd (gl hs v__law_are_ways_right__law_part) T.g__law_part T.f__law_part.kp T.b__law_part rfl (ok_consA (gv 13 hN rfl hs v__law_are_ways_right_ways n_ways) (ok_consA (ok_blt ok_len (gl hs v__law_are_ways_right_len) T.z_len boot_len (ok_consA (gv 2 hN rfl hs v__law_are_ways_right_every n_every) ok_nilA (starEach_ok rfl)) n_len.nn n_len.dbg rfl) ok_nilA (starEach_ok rfl)) (starEach_ok rfl)) (lenA_cons (lenA_cons lenA_nil)) n__law_part.dbg rfl) (ok_consA (ok_app (ok__law_part T) (hr.mono (by decide)) hgd (gl hs v__law_are_ways_right__law_part) T.g__law_part T.f__law_part.kp T.b__law_part rfl (ok_consA (gv 16 hN rfl hs v__law_are_ways_right_above n_above) (ok_consA (ok_blt ok_len (gl hs v__law_are_ways_right_len) T.z_len boot_len (ok_consA (gv 2 hN rfl hs v__law_are_ways_right_every n_every) ok_nilA (starEach_ok rfl)) n_len.nn n_len.dbg rfl) ok_nilA (starEach_ok rfl)) (starEach_ok rfl)) (lenA_cons (lenA_cons lenA_nil)) n__law_part.dbg rfl) (ok_consA (ok_app (ok__law_part T) (hr.mono (by decide)) hgd (gl hs v__law_are_ways_right__law_part) T.g__law_part T.f__law_part.kp T.b__law_part rfl (ok_consA (gv 17 hN rfl hs v__law_are_ways_right_below n_below) (ok_consA (ok_blt ok_len (gl hs v__law_are_ways_right_len) T.z_len boot_len (ok_consA (gv 2 hN rfl hs v__law_are_ways_right_every n_every) ok_nilA (starEach_ok rfl)) n_len.nn n_len.dbg rfl) ok_nilA (starEach_ok rfl)) (starEach_ok rfl)) (lenA_cons (lenA_cons lenA_nil)) n__law_part.dbg rfl) (ok_consA (ok_app (ok__law_part T) (hr.mono (by decide)) hgd (gl hs v__law_are_ways_right__law_part) T.g__law_part T.f__law_part.kp T.b__law_part rfl (ok_consA (gv 14 hN rfl hs v__law_are_ways_right_apart n_apart) (ok_consA (ok_blt ok_len (gl hs v__law_are_ways_right_len) T.z_len boot_len (ok_consA (gv 2 hN rfl hs v__law_are_ways_right_every n_every) ok_nilA (starEach_ok rfl)) n_len.nn n_len.dbg rfl) ok_nilA (starEach_ok rfl)) (starEach_ok rfl)) (lenA_cons (lenA_cons lenA_nil)) n__law_part.dbg rfl) ok_nilA (starEach_ok rfl)) (starEach_ok rfl)) (starEach_ok rfl)) (starEach_ok rfl)) (starEach_ok rfl))) (swaps_no rfl))
    (ok_cons (ok_iff (ok_cmpT (ok_ne hu) (ok_blt (ok_repr hu hgd) (gl hs v__law_are_ways_right_repr) T.z_repr boot_repr (ok_consA (ok_tupE (ok_consA (ok_app (ok_ways_of T) (hr.mono (by decide)) hgd (gl hs v__law_are_ways_right_ways_of) T.g_ways_of T.f_ways_of.kp T.b_ways_of rfl (ok_consA (gv 5 hN rfl hs v__law_are_ways_right_table n_table) ok_nilA (starEach_ok rfl)) (lenA_cons lenA_nil) n_ways_of.dbg rfl) (ok_consA (ok_app (ok_chance_of T) (hr.mono (by decide)) hgd (gl hs v__law_are_ways_right_chance_of) T.g_chance_of T.f_chance_of.kp T.b_chance_of rfl (ok_consA (gv 5 hN rfl hs v__law_are_ways_right_table n_table) ok_nilA (starEach_ok rfl)) (lenA_cons lenA_nil) n_chance_of.dbg rfl) (ok_consA (ok_app (ok_share_above T) (hr.mono (by decide)) hgd (gl hs v__law_are_ways_right_share_above) T.g_share_above T.f_share_above.kp T.b_share_above rfl (ok_consA (gv 5 hN rfl hs v__law_are_ways_right_table n_table) ok_nilA (starEach_ok rfl)) (lenA_cons lenA_nil) n_share_above.dbg rfl) (ok_consA (ok_app (ok_share_below T) (hr.mono (by decide)) hgd (gl hs v__law_are_ways_right_share_below) T.g_share_below T.f_share_below.kp T.b_share_below rfl (ok_consA (gv 5 hN rfl hs v__law_are_ways_right_table n_table) ok_nilA (starEach_ok rfl)) (lenA_cons lenA_nil) n_share_below.dbg rfl) (ok_consA (ok_app (ok_share_apart T) (hr.mono (by decide)) hgd (gl hs v__law_are_ways_right_share_apart) T.g_share_apart T.f_share_apart.kp T.b_share_apart rfl (ok_consA (gv 5 hN rfl hs v__law_are_ways_right_table n_table) ok_nilA (starEach_ok rfl)) (lenA_cons lenA_nil) n_share_apart.dbg rfl) ok_nilA (starEach_ok rfl)) (starEach_ok rfl)) (starEach_ok rfl)) (starEach_ok rfl)) (starEach_ok rfl))) ok_nilA (starEach_ok rfl)) n_repr.nn n_repr.dbg rfl) (ok_blt (ok_repr hu hgd) (gl hs v__law_are_ways_right_repr) T.z_repr boot_repr (ok_consA (gv 15 hN rfl hs v__law_are_ways_right_due n_due) ok_nilA (starEach_ok rfl)) n_repr.nn n_repr.dbg rfl) rfl) (ok_one (ok_ret ok_bool)) ok_nil)
    (ok_one (ok_iff (ok_cmpT (ok_ne hu) (ok_blt (ok_repr hu hgd) (gl hs v__law_are_ways_right_repr) T.z_repr boot_repr (ok_consA (ok_tupE (ok_consA (ok_app (ok_margins_of T) (hr.mono (by decide)) hgd (gl hs v__law_are_ways_right_margins_of) T.g_margins_of T.f_margins_of.kp T.b_margins_of rfl (ok_consA (gv 5 hN rfl hs v__law_are_ways_right_table n_table) ok_nilA (starEach_ok rfl)) (lenA_cons lenA_nil) n_margins_of.dbg rfl) (ok_consA (ok_app (ok_alike_of T) (hr.mono (by decide)) hgd (gl hs v__law_are_ways_right_alike_of) T.g_alike_of T.f_alike_of.kp T.b_alike_of rfl (ok_consA (gv 5 hN rfl hs v__law_are_ways_right_table n_table) ok_nilA (starEach_ok rfl)) (lenA_cons lenA_nil) n_alike_of.dbg rfl) (ok_consA (ok_app (ok_kappa_of T) (hr.mono (by decide)) hgd (gl hs v__law_are_ways_right_kappa_of) T.g_kappa_of T.f_kappa_of.kp T.b_kappa_of rfl (ok_consA (gv 5 hN rfl hs v__law_are_ways_right_table n_table) ok_nilA (starEach_ok rfl)) (lenA_cons lenA_nil) n_kappa_of.dbg rfl) ok_nilA (starEach_ok rfl)) (starEach_ok rfl)) (starEach_ok rfl))) ok_nilA (starEach_ok rfl)) n_repr.nn n_repr.dbg rfl) (ok_blt (ok_repr hu hgd) (gl hs v__law_are_ways_right_repr) T.z_repr boot_repr (ok_consA (ok_tupE (ok_consA (ok_tupE (ok_consA (gv 1 hN rfl hs v__law_are_ways_right_many n_many) (ok_consA (gv 10 hN rfl hs v__law_are_ways_right_first n_first) (ok_consA (gv 11 hN rfl hs v__law_are_ways_right_second n_second) ok_nilA (starEach_ok rfl)) (starEach_ok rfl)) (starEach_ok rfl))) (ok_consA (ok_app (ok__law_part T) (hr.mono (by decide)) hgd (gl hs v__law_are_ways_right__law_part) T.g__law_part T.f__law_part.kp T.b__law_part rfl (ok_consA (ok_bin ok_add (ok_idx (gv 5 hN rfl hs v__law_are_ways_right_table n_table) ok_int (plainIx_of rfl)) (ok_idx (gv 5 hN rfl hs v__law_are_ways_right_table n_table) ok_int (plainIx_of rfl))) (ok_consA (gv 1 hN rfl hs v__law_are_ways_right_many n_many) ok_nilA (starEach_ok rfl)) (starEach_ok rfl)) (lenA_cons (lenA_cons lenA_nil)) n__law_part.dbg rfl) (ok_consA (ok_app (ok__law_kappa T) (hr.mono (by decide)) hgd (gl hs v__law_are_ways_right__law_kappa) T.g__law_kappa T.f__law_kappa.kp T.b__law_kappa rfl (ok_consA (gv 5 hN rfl hs v__law_are_ways_right_table n_table) ok_nilA (starEach_ok rfl)) (lenA_cons lenA_nil) n__law_kappa.dbg rfl) ok_nilA (starEach_ok rfl)) (starEach_ok rfl)) (starEach_ok rfl))) ok_nilA (starEach_ok rfl)) n_repr.nn n_repr.dbg rfl) rfl) (ok_one (ok_ret ok_bool)) ok_nil))))))) (fold_no rfl))
    (ok_cons (g_setLc hN hs sc__law_are_ways_right.kind k__law_are_ways_right_numbers (i := 6) rfl rfl (by decide +kernel) (own := [("table", 5)]) hc (hN ▸ nd) (ok_iterS (gv 2 hN rfl hs v__law_are_ways_right_every n_every)) (blk_of hN hs (by decide +kernel)) ⟨fun _ _ _ _ _ => (gtb 5 hN nd rfl (by decide +kernel)), fun _ _ _ _ _ => ok_yes, fun _ _ _ _ _ => (ok_app (ok_kappa_of T) (hr.mono (by decide)) hgd (glb rfl (by decide +kernel)) T.g_kappa_of T.f_kappa_of.kp T.b_kappa_of rfl (ok_consA (gvb 5 hN rfl rfl (by decide +kernel) n_table) ok_nilA (starEach_ok rfl)) (lenA_cons lenA_nil) n_kappa_of.dbg rfl)⟩ (own_sub rfl) (fold_no rfl))
    (ok_cons (ok_iff (PW.pt (ok_orT (ok_cmpT (ok_ne hu) (ok_app (ok__law_sum T) (hr.mono (by decide)) hgd (gl hs v__law_are_ways_right__law_sum) T.g__law_sum T.f__law_sum.kp T.b__law_sum rfl (ok_consA (ok_lc (own := [("table", 5)]) hc (hN ▸ nd) (ok_iterS (gv 2 hN rfl hs v__law_are_ways_right_every n_every)) (blk_of hN hs (by decide +kernel)) ⟨fun _ _ _ _ _ => (gtb 5 hN nd rfl (by decide +kernel)), fun _ _ _ _ _ => ok_yes, fun _ _ _ _ _ => (ok_tupE (ok_consA (ok_idx (gvb 5 hN rfl rfl (by decide +kernel) n_table) ok_int (plainIx_of rfl)) (ok_consA ok_int ok_nilA (starEach_ok rfl)) (starEach_ok rfl)))⟩ (own_sub rfl) (fold_no rfl)) ok_nilA (starEach_ok rfl)) (lenA_cons lenA_nil) n__law_sum.dbg rfl) (ok_app (ok__law_part T) (hr.mono (by decide)) hgd (gl hs v__law_are_ways_right__law_part) T.g__law_part T.f__law_part.kp T.b__law_part rfl (ok_consA (ok_bin ok_mul (ok_bin ok_mul (gv 10 hN rfl hs v__law_are_ways_right_first n_first) (gv 11 hN rfl hs v__law_are_ways_right_second n_second)) (ok_blt ok_len (gl hs v__law_are_ways_right_len) T.z_len boot_len (ok_consA (gv 2 hN rfl hs v__law_are_ways_right_every n_every) ok_nilA (starEach_ok rfl)) n_len.nn n_len.dbg rfl)) (ok_consA (gv 1 hN rfl hs v__law_are_ways_right_many n_many) ok_nilA (starEach_ok rfl)) (starEach_ok rfl)) (lenA_cons (lenA_cons lenA_nil)) n__law_part.dbg rfl) rfl) (pw_or1 (ok_cmpT (ok_isNot) (ok_app (ok_is_table T) (hr.mono (by decide)) hgd (gl hs v__law_are_ways_right_is_table) T.g_is_table T.f_is_table.kp T.b_is_table rfl (ok_consA (ok_idx (gv 2 hN rfl hs v__law_are_ways_right_every n_every) ok_int (plainIx_of rfl)) ok_nilA (starEach_ok rfl)) (lenA_cons lenA_nil) n_is_table.dbg rfl) ok_bool rfl)))) (ok_one (ok_ret ok_bool)) ok_nil)
    (ok_cons (ok_iff (PW.pt (ok_orT (PW.pt (ok_andT (ok_cmpT (ok_in hu) ok_none (gv 6 hN rfl hs v__law_are_ways_right_numbers n_numbers) rfl) (pw_and1 (ok_cmpT (ok_ne hu) (ok_count hu (gv 6 hN rfl hs v__law_are_ways_right_numbers n_numbers) ok_none rfl rfl rfl) (ok_blt ok_len (gl hs v__law_are_ways_right_len) T.z_len boot_len (ok_consA (gv 6 hN rfl hs v__law_are_ways_right_numbers n_numbers) ok_nilA (starEach_ok rfl)) n_len.nn n_len.dbg rfl) rfl)))) (pw_or1 (PW.pt (ok_andT (ok_cmpT (ok_notIn hu) ok_none (gv 6 hN rfl hs v__law_are_ways_right_numbers n_numbers) rfl) (pw_and1 (ok_cmpT (ok_ne hu) (ok_app (ok__law_sum T) (hr.mono (by decide)) hgd (gl hs v__law_are_ways_right__law_sum) T.g__law_sum T.f__law_sum.kp T.b__law_sum rfl (ok_consA (gv 6 hN rfl hs v__law_are_ways_right_numbers n_numbers) ok_nilA (starEach_ok rfl)) (lenA_cons lenA_nil) n__law_sum.dbg rfl) (ok_tupE (ok_consA ok_int (ok_consA ok_int ok_nilA (starEach_ok rfl)) (starEach_ok rfl))) rfl))))))) (ok_one (ok_ret ok_bool)) ok_nil)
    (ok_cons (g_setLc hN hs sc__law_are_ways_right.kind k__law_are_ways_right_alike (i := 7) rfl rfl (by decide +kernel) (own := [("table", 5)]) hc (hN ▸ nd) (ok_iterS (gv 4 hN rfl hs v__law_are_ways_right_tables n_tables)) (blk_of hN hs (by decide +kernel)) ⟨fun _ _ _ _ _ => (gtb 5 hN nd rfl (by decide +kernel)), fun _ _ _ _ _ => ok_yes, fun _ _ _ _ _ => (ok_app (ok_alike_of T) (hr.mono (by decide)) hgd (glb rfl (by decide +kernel)) T.g_alike_of T.f_alike_of.kp T.b_alike_of rfl (ok_consA (gvb 5 hN rfl rfl (by decide +kernel) n_table) ok_nilA (starEach_ok rfl)) (lenA_cons lenA_nil) n_alike_of.dbg rfl)⟩ (own_sub rfl) (fold_no rfl))
    (ok_cons (ok_iff (ok_cmpT (ok_ne hu) (ok_app (ok_alike_between T) (hr.mono (by decide)) hgd (gl hs v__law_are_ways_right_alike_between) T.g_alike_between T.f_alike_between.kp T.b_alike_between rfl (ok_consA (ok_tupE (ok_consA (gv 1 hN rfl hs v__law_are_ways_right_many n_many) (ok_consA (gv 10 hN rfl hs v__law_are_ways_right_first n_first) (ok_consA (gv 11 hN rfl hs v__law_are_ways_right_second n_second) ok_nilA (starEach_ok rfl)) (starEach_ok rfl)) (starEach_ok rfl))) ok_nilA (starEach_ok rfl)) (lenA_cons lenA_nil) n_alike_between.dbg rfl) (ok_tupE (ok_consA (ok_tupE (ok_consA (ok_idx (gv 7 hN rfl hs v__law_are_ways_right_alike n_alike) ok_int (plainIx_of rfl)) (ok_consA (ok_idx (gv 4 hN rfl hs v__law_are_ways_right_tables n_tables) ok_int (plainIx_of rfl)) ok_nilA (starEach_ok rfl)) (starEach_ok rfl))) (ok_consA (ok_tupE (ok_consA (ok_idx (gv 7 hN rfl hs v__law_are_ways_right_alike n_alike) (ok_neg ok_int) (plainIx_of rfl)) (ok_consA (ok_idx (gv 4 hN rfl hs v__law_are_ways_right_tables n_tables) (ok_neg ok_int) (plainIx_of rfl)) ok_nilA (starEach_ok rfl)) (starEach_ok rfl))) ok_nilA (starEach_ok rfl)) (starEach_ok rfl))) rfl) (ok_one (ok_ret ok_bool)) ok_nil)
    (ok_cons (ok_iff (PW.pt (ok_orT (ok_notT (ok_truth (ok_app (ok__law_is_share_fair T) (hr.mono (by decide)) hgd (gl hs v__law_are_ways_right__law_is_share_fair) T.g__law_is_share_fair T.f__law_is_share_fair.kp T.b__law_is_share_fair rfl (ok_consA (ok_blt ok_len (gl hs v__law_are_ways_right_len) T.z_len boot_len (ok_consA (gv 2 hN rfl hs v__law_are_ways_right_every n_every) ok_nilA (starEach_ok rfl)) n_len.nn n_len.dbg rfl) (ok_consA (ok_lc (own := [("one", 19)]) hc (hN ▸ nd) (ok_iterS (gv 2 hN rfl hs v__law_are_ways_right_every n_every)) (blk_of hN hs (by decide +kernel)) ⟨fun _ _ _ _ _ => (gtb 19 hN nd rfl (by decide +kernel)), fun _ _ _ _ _ => ok_yes, fun _ _ _ _ _ => (ok_app (ok_share_above T) (hr.mono (by decide)) hgd (glb rfl (by decide +kernel)) T.g_share_above T.f_share_above.kp T.b_share_above rfl (ok_consA (gvb 19 hN rfl rfl (by decide +kernel) n_one) ok_nilA (starEach_ok rfl)) (lenA_cons lenA_nil) n_share_above.dbg rfl)⟩ (own_sub rfl) (fold_no rfl)) ok_nilA (starEach_ok rfl)) (starEach_ok rfl)) (lenA_cons (lenA_cons lenA_nil)) n__law_is_share_fair.dbg rfl) (fun _ => rfl))) (pw_or1 (ok_notT (ok_truth (ok_app (ok__law_is_share_fair T) (hr.mono (by decide)) hgd (gl hs v__law_are_ways_right__law_is_share_fair) T.g__law_is_share_fair T.f__law_is_share_fair.kp T.b__law_is_share_fair rfl (ok_consA (ok_blt ok_len (gl hs v__law_are_ways_right_len) T.z_len boot_len (ok_consA (gv 2 hN rfl hs v__law_are_ways_right_every n_every) ok_nilA (starEach_ok rfl)) n_len.nn n_len.dbg rfl) (ok_consA (ok_lc (own := [("one", 19)]) hc (hN ▸ nd) (ok_iterS (gv 2 hN rfl hs v__law_are_ways_right_every n_every)) (blk_of hN hs (by decide +kernel)) ⟨fun _ _ _ _ _ => (gtb 19 hN nd rfl (by decide +kernel)), fun _ _ _ _ _ => ok_yes, fun _ _ _ _ _ => (ok_app (ok_share_apart T) (hr.mono (by decide)) hgd (glb rfl (by decide +kernel)) T.g_share_apart T.f_share_apart.kp T.b_share_apart rfl (ok_consA (gvb 19 hN rfl rfl (by decide +kernel) n_one) ok_nilA (starEach_ok rfl)) (lenA_cons lenA_nil) n_share_apart.dbg rfl)⟩ (own_sub rfl) (fold_no rfl)) ok_nilA (starEach_ok rfl)) (starEach_ok rfl)) (lenA_cons (lenA_cons lenA_nil)) n__law_is_share_fair.dbg rfl) (fun _ => rfl)))))) (ok_one (ok_ret ok_bool)) ok_nil)
    (ok_cons (g_asg 8 hN nd rfl hs c__law_are_ways_right_level (congrFun hfn _) (ok_app (ok__law_part T) (hr.mono (by decide)) hgd (gl hs v__law_are_ways_right__law_part) T.g__law_part T.f__law_part.kp T.b__law_part rfl (ok_consA (ok_app (ok__law_take T) (hr.mono (by decide)) hgd (gl hs v__law_are_ways_right__law_take) T.g__law_take T.f__law_take.kp T.b__law_take rfl (ok_consA (gv 0 hN rfl hs v__law_are_ways_right_pot n_pot) (ok_consA ok_int ok_nilA (starEach_ok rfl)) (starEach_ok rfl)) (lenA_cons (lenA_cons lenA_nil)) n__law_take.dbg rfl) (ok_consA ok_int ok_nilA (starEach_ok rfl)) (starEach_ok rfl)) (lenA_cons (lenA_cons lenA_nil)) n__law_part.dbg rfl) (swaps_no rfl))
    (ok_cons (g_setLc hN hs sc__law_are_ways_right.kind k__law_are_ways_right_some (i := 9) rfl rfl (by decide +kernel) (own := [("table", 5)]) hc (hN ▸ nd) (ok_iterS (gv 4 hN rfl hs v__law_are_ways_right_tables n_tables)) (blk_of hN hs (by decide +kernel)) ⟨fun _ _ _ _ _ => (gtb 5 hN nd rfl (by decide +kernel)), fun _ _ _ _ _ => (pts_one (ok_notT (ok_truth (ok_app (ok__law_less T) (hr.mono (by decide)) hgd (glb rfl (by decide +kernel)) T.g__law_less T.f__law_less.kp T.b__law_less rfl (ok_consA (gvb 8 hN rfl rfl (by decide +kernel) n_level) (ok_consA (ok_app (ok_share_above T) (hr.mono (by decide)) hgd (glb rfl (by decide +kernel)) T.g_share_above T.f_share_above.kp T.b_share_above rfl (ok_consA (gvb 5 hN rfl rfl (by decide +kernel) n_table) ok_nilA (starEach_ok rfl)) (lenA_cons lenA_nil) n_share_above.dbg rfl) ok_nilA (starEach_ok rfl)) (starEach_ok rfl)) (lenA_cons (lenA_cons lenA_nil)) n__law_less.dbg rfl) (fun _ => rfl)))), fun _ _ _ _ _ => (ok_idx (gvb 5 hN rfl rfl (by decide +kernel) n_table) ok_int (plainIx_of rfl))⟩ (own_sub rfl) (fold_no rfl))
    (ok_one (ok_ret (ok_cmp1 (ok_eq hu) (ok_blt (ok_repr hu hgd) (gl hs v__law_are_ways_right_repr) T.z_repr boot_repr (ok_consA (ok_app (ok_needed T) (hr.mono (by decide)) hgd (gl hs v__law_are_ways_right_needed) T.g_needed T.f_needed.kp T.b_needed rfl (ok_consA (ok_tupE (ok_consA (gv 1 hN rfl hs v__law_are_ways_right_many n_many) (ok_consA (gv 10 hN rfl hs v__law_are_ways_right_first n_first) (ok_consA (gv 11 hN rfl hs v__law_are_ways_right_second n_second) ok_nilA (starEach_ok rfl)) (starEach_ok rfl)) (starEach_ok rfl))) (ok_consA (gv 8 hN rfl hs v__law_are_ways_right_level n_level) ok_nilA (starEach_ok rfl)) (starEach_ok rfl)) (lenA_cons (lenA_cons lenA_nil)) n_needed.dbg rfl) ok_nilA (starEach_ok rfl)) n_repr.nn n_repr.dbg rfl) (ok_blt (ok_repr hu hgd) (gl hs v__law_are_ways_right_repr) T.z_repr boot_repr (ok_consA (ok_ifE (ok_cmpT (ok_ne hu) (gv 9 hN rfl hs v__law_are_ways_right_some n_some) (ok_lstE ok_nilA) rfl) (ok_idx (gv 9 hN rfl hs v__law_are_ways_right_some n_some) ok_int (plainIx_of rfl)) ok_none) ok_nilA (starEach_ok rfl)) n_repr.nn n_repr.dbg rfl) rfl)))))))))))))))))))
/-! _law_is_great_right -/
theorem sc__law_is_great_right : FnScope ["pot", "parts", "table", "ways", "own", "due", "turned", "many", "first", "second", "low", "high", "whole", "lap", "both", "one"] ["pot"] (defScope s__law_is_great_right) := ⟨rfl, rfl, rfl, by decide +kernel, rfl, by decide +kernel, by decide +kernel⟩
theorem v__law_is_great_right__law_choose : lk (defScope s__law_is_great_right) "_law_choose" = some .globalImplicit := by decide +kernel
theorem v__law_is_great_right__law_kappa : lk (defScope s__law_is_great_right) "_law_kappa" = some .globalImplicit := by decide +kernel
theorem v__law_is_great_right__law_part : lk (defScope s__law_is_great_right) "_law_part" = some .globalImplicit := by decide +kernel
theorem v__law_is_great_right_chance_of : lk (defScope s__law_is_great_right) "chance_of" = some .globalImplicit := by decide +kernel
theorem k__law_is_great_right_due : lk (defScope s__law_is_great_right) "due" = some .local := by decide +kernel
theorem v__law_is_great_right_due : kVis (lk (defScope s__law_is_great_right) "due") = true := by rw [k__law_is_great_right_due]; rfl
theorem c__law_is_great_right_due : kLoc (lk (defScope s__law_is_great_right) "due") = true := by rw [k__law_is_great_right_due]; rfl
theorem k__law_is_great_right_first : lk (defScope s__law_is_great_right) "first" = some .cell := by decide +kernel
theorem v__law_is_great_right_first : kVis (lk (defScope s__law_is_great_right) "first") = true := by rw [k__law_is_great_right_first]; rfl
theorem c__law_is_great_right_first : kLoc (lk (defScope s__law_is_great_right) "first") = true := by rw [k__law_is_great_right_first]; rfl
theorem k__law_is_great_right_high : lk (defScope s__law_is_great_right) "high" = some .local := by decide +kernel
theorem v__law_is_great_right_high : kVis (lk (defScope s__law_is_great_right) "high") = true := by rw [k__law_is_great_right_high]; rfl
theorem c__law_is_great_right_high : kLoc (lk (defScope s__law_is_great_right) "high") = true := by rw [k__law_is_great_right_high]; rfl
theorem v__law_is_great_right_kappa_of : lk (defScope s__law_is_great_right) "kappa_of" = some .globalImplicit := by decide +kernel
theorem k__law_is_great_right_low : lk (defScope s__law_is_great_right) "low" = some .local := by decide +kernel
theorem v__law_is_great_right_low : kVis (lk (defScope s__law_is_great_right) "low") = true := by rw [k__law_is_great_right_low]; rfl
theorem c__law_is_great_right_low : kLoc (lk (defScope s__law_is_great_right) "low") = true := by rw [k__law_is_great_right_low]; rfl
theorem k__law_is_great_right_many : lk (defScope s__law_is_great_right) "many" = some .cell := by decide +kernel
theorem v__law_is_great_right_many : kVis (lk (defScope s__law_is_great_right) "many") = true := by rw [k__law_is_great_right_many]; rfl
theorem c__law_is_great_right_many : kLoc (lk (defScope s__law_is_great_right) "many") = true := by rw [k__law_is_great_right_many]; rfl
theorem v__law_is_great_right_max : lk (defScope s__law_is_great_right) "max" = some .globalImplicit := by decide +kernel
theorem v__law_is_great_right_min : lk (defScope s__law_is_great_right) "min" = some .globalImplicit := by decide +kernel
theorem k__law_is_great_right_own : lk (defScope s__law_is_great_right) "own" = some .cell := by decide +kernel
theorem v__law_is_great_right_own : kVis (lk (defScope s__law_is_great_right) "own") = true := by rw [k__law_is_great_right_own]; rfl
theorem c__law_is_great_right_own : kLoc (lk (defScope s__law_is_great_right) "own") = true := by rw [k__law_is_great_right_own]; rfl
theorem k__law_is_great_right_parts : lk (defScope s__law_is_great_right) "parts" = some .local := by decide +kernel
theorem v__law_is_great_right_parts : kVis (lk (defScope s__law_is_great_right) "parts") = true := by rw [k__law_is_great_right_parts]; rfl
theorem c__law_is_great_right_parts : kLoc (lk (defScope s__law_is_great_right) "parts") = true := by rw [k__law_is_great_right_parts]; rfl
theorem v__law_is_great_right_range : lk (defScope s__law_is_great_right) "range" = some .globalImplicit := by decide +kernel
theorem v__law_is_great_right_repr : lk (defScope s__law_is_great_right) "repr" = some .globalImplicit := by decide +kernel
theorem k__law_is_great_right_second : lk (defScope s__law_is_great_right) "second" = some .cell := by decide +kernel
theorem v__law_is_great_right_second : kVis (lk (defScope s__law_is_great_right) "second") = true := by rw [k__law_is_great_right_second]; rfl
theorem c__law_is_great_right_second : kLoc (lk (defScope s__law_is_great_right) "second") = true := by rw [k__law_is_great_right_second]; rfl
theorem v__law_is_great_right_share_above : lk (defScope s__law_is_great_right) "share_above" = some .globalImplicit := by decide +kernel
theorem v__law_is_great_right_share_apart : lk (defScope s__law_is_great_right) "share_apart" = some .globalImplicit := by decide +kernel
theorem v__law_is_great_right_share_below : lk (defScope s__law_is_great_right) "share_below" = some .globalImplicit := by decide +kernel
theorem v__law_is_great_right_sum : lk (defScope s__law_is_great_right) "sum" = some .globalImplicit := by decide +kernel
theorem k__law_is_great_right_table : lk (defScope s__law_is_great_right) "table" = some .local := by decide +kernel
theorem v__law_is_great_right_table : kVis (lk (defScope s__law_is_great_right) "table") = true := by rw [k__law_is_great_right_table]; rfl
theorem c__law_is_great_right_table : kLoc (lk (defScope s__law_is_great_right) "table") = true := by rw [k__law_is_great_right_table]; rfl
theorem v__law_is_great_right_tuple : lk (defScope s__law_is_great_right) "tuple" = some .globalImplicit := by decide +kernel
theorem k__law_is_great_right_turned : lk (defScope s__law_is_great_right) "turned" = some .local := by decide +kernel
theorem v__law_is_great_right_turned : kVis (lk (defScope s__law_is_great_right) "turned") = true := by rw [k__law_is_great_right_turned]; rfl
theorem c__law_is_great_right_turned : kLoc (lk (defScope s__law_is_great_right) "turned") = true := by rw [k__law_is_great_right_turned]; rfl
theorem k__law_is_great_right_ways : lk (defScope s__law_is_great_right) "ways" = some .local := by decide +kernel
theorem v__law_is_great_right_ways : kVis (lk (defScope s__law_is_great_right) "ways") = true := by rw [k__law_is_great_right_ways]; rfl
theorem c__law_is_great_right_ways : kLoc (lk (defScope s__law_is_great_right) "ways") = true := by rw [k__law_is_great_right_ways]; rfl
theorem v__law_is_great_right_ways_of : lk (defScope s__law_is_great_right) "ways_of" = some .globalImplicit := by decide +kernel
theorem k__law_is_great_right_whole : lk (defScope s__law_is_great_right) "whole" = some .local := by decide +kernel
theorem v__law_is_great_right_whole : kVis (lk (defScope s__law_is_great_right) "whole") = true := by rw [k__law_is_great_right_whole]; rfl
theorem c__law_is_great_right_whole : kLoc (lk (defScope s__law_is_great_right) "whole") = true := by rw [k__law_is_great_right_whole]; rfl
def m__law_is_great_right : Fn := fnM false 16 (sq (asg 1 (lc [13] (.nm 13) (iterR1 (consA (cst (.int 4)) nilA)) yesT (app m__law_take (consA (var 0) (consA (cst (.int 16)) nilA)))))
    (sq (asg 2 (blt bTuple (consA (ifE (tru (bin gGt (blt bSum (consA (var 1) nilA)) (cst (.int 0)))) (var 1) (lstE (consA (cst (.int 1)) (consA (cst (.int 0)) (consA (cst (.int 0)) (consA (cst (.int 0)) nilA)))))) nilA)))
    (sq (asgT (.tp (.cons (.nm 7) (.cons (.nm 8) (.cons (.nm 9) .nil)))) (tupE (consA (blt bSum (consA (var 2) nilA)) (consA (bin gAdd (bin gIdx (var 2) (cst (.int 0))) (bin gIdx (var 2) (cst (.int 1)))) (consA (bin gAdd (bin gIdx (var 2) (cst (.int 0))) (bin gIdx (var 2) (cst (.int 2)))) nilA)))))
    (sq (par3 10 11 12 (consA (blt bMax (consA (cst (.int 0)) (consA (bin gSub (bin gAdd (var 8) (var 9)) (var 7)) nilA))) (consA (blt bMin (consA (var 8) (consA (var 9) nilA))) (consA (app m__law_choose (consA (var 7) (consA (var 9) nilA))) nilA))))
    (sq (asg 3 (lc [14] (.nm 14) (iterR2 (consA (var 10) (consA (bin gAdd (var 11) (cst (.int 1))) nilA))) yesT (bin gMul (app m__law_choose (consA (var 8) (consA (var 14) nilA))) (app m__law_choose (consA (bin gSub (var 7) (var 8)) (consA (bin gSub (var 9) (var 14)) nilA))))))
    (sq (asg 4 (bin gIdx (var 3) (bin gSub (bin gIdx (var 2) (cst (.int 0))) (var 10))))
    (sq (asg 5 (tupE (consA (app m__law_part (consA (var 4) (consA (var 12) nilA))) (consA (app m__law_part (consA (blt bSum (consA (slc (var 3) (someP (bin gSub (bin gIdx (var 2) (cst (.int 0))) (var 10))) noP) nilA)) (consA (var 12) nilA))) (consA (app m__law_part (consA (blt bSum (consA (slc (var 3) noP (someP (bin gAdd (bin gSub (bin gIdx (var 2) (cst (.int 0))) (var 10)) (cst (.int 1))))) nilA)) (consA (var 12) nilA))) nilA)))))
    (sq (asg 5 (bin gAdd (var 5) (tupE (consA (app m__law_part (consA (blt bSum (consA (lc [15] (.nm 15) (iterS (var 3)) (tru (bin gLe (var 15) (var 4))) (var 15)) nilA)) (consA (var 12) nilA))) (consA (var 4) (consA (app m__law_kappa (consA (var 2) nilA)) nilA))))))
    (sq (iff (tru (bin gNe (blt bRepr (consA (tupE (consA (app m_chance_of (consA (var 2) nilA)) (consA (app m_share_above (consA (var 2) nilA)) (consA (app m_share_below (consA (var 2) nilA)) (consA (app m_share_apart (consA (var 2) nilA)) (consA (app m_ways_of (consA (var 2) nilA)) (consA (app m_kappa_of (consA (var 2) nilA)) nilA))))))) nilA)) (blt bRepr (consA (var 5) nilA)))) (retS (cst (.bool false))) skp)
    (sq (asg 6 (tupE (consA (bin gIdx (var 2) (cst (.int 1))) (consA (bin gIdx (var 2) (cst (.int 0))) (consA (bin gIdx (var 2) (cst (.int 3))) (consA (bin gIdx (var 2) (cst (.int 2))) nilA))))))
    (retS (andE (bin gEq (app m_share_above (consA (var 6) nilA)) (app m_share_below (consA (var 2) nilA))) (bin gEq (app m_share_above (consA (tupE (consA (bin gIdx (var 2) (cst (.int 0))) (consA (bin gIdx (var 2) (cst (.int 2))) (consA (bin gIdx (var 2) (cst (.int 1))) (consA (bin gIdx (var 2) (cst (.int 3))) nilA))))) nilA)) (app m_share_above (consA (var 2) nilA)))))))))))))))
theorem ok__law_is_great_right {P : Program} {w : World} {K : Frag} {mg : Str → Option Value} {base : Heap} {ad : Nat → Addr} {fd : Nat → FuncData} (T : TX K mg ad fd) : FnG P w K mg base 7 (ad 46) (fd 46) ["pot"] m__law_is_great_right := by
  refine fnG_fun T.f__law_is_great_right sc__law_is_great_right fun X e1 e2 e3 e4 e5 hN hs hc hx hfn hgd hr => ?_
  subst e1 e2 e3 e4 e5
  have nd := sc__law_is_great_right.nd
  have hu := hu_room hr
  exact (ok_cons (g_setLc hN hs sc__law_is_great_right.kind k__law_is_great_right_parts (i := 1) rfl rfl (by decide +kernel) (own := [("lap", 13)]) hc (hN ▸ nd) (ok_iterR1 (gl hs v__law_is_great_right_range) T.z_range (ok_consA ok_int ok_nilA (starEach_ok rfl)) (starEach_ok rfl)) (blk_of hN hs (by decide +kernel)) ⟨fun _ _ _ _ _ => (gtb 13 hN nd rfl (by decide +kernel)), fun _ _ _ _ _ => ok_yes, fun _ _ _ _ _ => (ok_app (ok__law_take T) (hr.mono (by decide)) hgd (glb rfl (by decide +kernel)) T.g__law_take T.f__law_take.kp T.b__law_take rfl (ok_consA (gvb 0 hN rfl rfl (by decide +kernel) n_pot) (ok_consA ok_int ok_nilA (starEach_ok rfl)) (starEach_ok rfl)) (lenA_cons (lenA_cons lenA_nil)) n__law_take.dbg rfl)⟩ (own_sub rfl) (fold_no rfl))
    (ok_cons (g_asg 2 hN nd rfl hs c__law_is_great_right_table (congrFun hfn _) (ok_bltT ok_tuple (gl hs v__law_is_great_right_tuple) T.z_tuple boot_tuple (ok_consA (ok_ifE (ok_cmpT (ok_gt hu) (ok_blt (ok_sum hc) (gl hs v__law_is_great_right_sum) T.z_sum boot_sum (ok_consA (gv 1 hN rfl hs v__law_is_great_right_parts n_parts) ok_nilA (starEach_ok rfl)) n_sum.nn n_sum.dbg rfl) ok_int rfl) (gv 1 hN rfl hs v__law_is_great_right_parts n_parts) (ok_lstE (ok_consA ok_int (ok_consA ok_int (ok_consA ok_int (ok_consA ok_int ok_nilA (starEach_ok rfl)) (starEach_ok rfl)) (starEach_ok rfl)) (starEach_ok rfl)))) ok_nilA (starEach_ok rfl)) n_tuple.nn n_tuple.dbg rfl) (swaps_no rfl))
    (ok_cons (ok_asgT (ok_tupE (ok_consA (ok_blt (ok_sum hc) (gl hs v__law_is_great_right_sum) T.z_sum boot_sum (ok_consA (gv 2 hN rfl hs v__law_is_great_right_table n_table) ok_nilA (starEach_ok rfl)) n_sum.nn n_sum.dbg rfl) (ok_consA (ok_bin ok_add (ok_idx (gv 2 hN rfl hs v__law_is_great_right_table n_table) ok_int (plainIx_of rfl)) (ok_idx (gv 2 hN rfl hs v__law_is_great_right_table n_table) ok_int (plainIx_of rfl))) (ok_consA (ok_bin ok_add (ok_idx (gv 2 hN rfl hs v__law_is_great_right_table n_table) ok_int (plainIx_of rfl)) (ok_idx (gv 2 hN rfl hs v__law_is_great_right_table n_table) ok_int (plainIx_of rfl))) ok_nilA (starEach_ok rfl)) (starEach_ok rfl)) (starEach_ok rfl))) (gt_tup hc (gt_cons (gt 7 hN nd rfl hs c__law_is_great_right_many (congrFun hfn _)) (gt_cons (gt 8 hN nd rfl hs c__law_is_great_right_first (congrFun hfn _)) (gt_cons (gt 9 hN nd rfl hs c__law_is_great_right_second (congrFun hfn _)) gt_nil rfl) rfl) rfl) rfl rfl) (swapsS_no rfl) (swapped_cell3 hs k__law_is_great_right_many k__law_is_great_right_first k__law_is_great_right_second rfl) rfl)
    (ok_cons (g_par3 hN hs sc__law_is_great_right.kind hc nd rfl rfl rfl (by decide) (by decide) (by decide) k__law_is_great_right_low k__law_is_great_right_high k__law_is_great_right_whole (ok_consA (ok_blt (ok_max hc) (gl hs v__law_is_great_right_max) T.z_max boot_max (ok_consA ok_int (ok_consA (ok_bin ok_sub (ok_bin ok_add (gv 8 hN rfl hs v__law_is_great_right_first n_first) (gv 9 hN rfl hs v__law_is_great_right_second n_second)) (gv 7 hN rfl hs v__law_is_great_right_many n_many)) ok_nilA (starEach_ok rfl)) (starEach_ok rfl)) n_max.nn n_max.dbg rfl) (ok_consA (ok_blt (ok_min hc) (gl hs v__law_is_great_right_min) T.z_min boot_min (ok_consA (gv 8 hN rfl hs v__law_is_great_right_first n_first) (ok_consA (gv 9 hN rfl hs v__law_is_great_right_second n_second) ok_nilA (starEach_ok rfl)) (starEach_ok rfl)) n_min.nn n_min.dbg rfl) (ok_consA (ok_app (ok__law_choose T) (hr.mono (by decide)) hgd (gl hs v__law_is_great_right__law_choose) T.g__law_choose T.f__law_choose.kp T.b__law_choose rfl (ok_consA (gv 7 hN rfl hs v__law_is_great_right_many n_many) (ok_consA (gv 9 hN rfl hs v__law_is_great_right_second n_second) ok_nilA (starEach_ok rfl)) (starEach_ok rfl)) (lenA_cons (lenA_cons lenA_nil)) n__law_choose.dbg rfl) ok_nilA (starEach_ok rfl)) (starEach_ok rfl)) (starEach_ok rfl)) (by decide +kernel) (by decide +kernel) (by decide +kernel) rfl rfl rfl)
    (ok_cons (g_setLc hN hs sc__law_is_great_right.kind k__law_is_great_right_ways (i := 3) rfl rfl (by decide +kernel) (own := [("both", 14)]) hc (hN ▸ nd) (ok_iterR2 (gl hs v__law_is_great_right_range) T.z_range (ok_consA (gv 10 hN rfl hs v__law_is_great_right_low n_low) (ok_consA (ok_bin ok_add (gv 11 hN rfl hs v__law_is_great_right_high n_high) ok_int) ok_nilA (starEach_ok rfl)) (starEach_ok rfl)) ((starEach_ok rfl).trans (congrArg _ (starEach_ok rfl))) (starEach_ok rfl)) (blk_of hN hs (by decide +kernel)) ⟨fun _ _ _ _ _ => (gtb 14 hN nd rfl (by decide +kernel)), fun _ _ _ _ _ => ok_yes, fun _ _ _ _ _ => (ok_bin ok_mul (ok_app (ok__law_choose T) (hr.mono (by decide)) hgd (glb rfl (by decide +kernel)) T.g__law_choose T.f__law_choose.kp T.b__law_choose rfl (ok_consA (gvb 8 hN rfl rfl (by decide +kernel) n_first) (ok_consA (gvb 14 hN rfl rfl (by decide +kernel) n_both) ok_nilA (starEach_ok rfl)) (starEach_ok rfl)) (lenA_cons (lenA_cons lenA_nil)) n__law_choose.dbg rfl) (ok_app (ok__law_choose T) (hr.mono (by decide)) hgd (glb rfl (by decide +kernel)) T.g__law_choose T.f__law_choose.kp T.b__law_choose rfl (ok_consA (ok_bin ok_sub (gvb 7 hN rfl rfl (by decide +kernel) n_many) (gvb 8 hN rfl rfl (by decide +kernel) n_first)) (ok_consA (ok_bin ok_sub (gvb 9 hN rfl rfl (by decide +kernel) n_second) (gvb 14 hN rfl rfl (by decide +kernel) n_both)) ok_nilA (starEach_ok rfl)) (starEach_ok rfl)) (lenA_cons (lenA_cons lenA_nil)) n__law_choose.dbg rfl))⟩ (own_sub rfl) (fold_no rfl))
    (ok_cons (g_asg 4 hN nd rfl hs c__law_is_great_right_own (congrFun hfn _) (ok_idx (gv 3 hN rfl hs v__law_is_great_right_ways n_ways) (ok_bin ok_sub (ok_idx (gv 2 hN rfl hs v__law_is_great_right_table n_table) ok_int (plainIx_of rfl)) (gv 10 hN rfl hs v__law_is_great_right_low n_low)) (plainIx_of rfl)) (swaps_no rfl))
    (ok_cons (g_asg 5 hN nd rfl hs c__law_is_great_right_due (congrFun hfn _) (ok_tupE (ok_consA (ok_app (ok__law_part T) (hr.mono (by decide)) hgd (gl hs v__law_is_great_right__law_part) T.g__law_part T.f__law_part.kp T.b__law_part rfl (ok_consA (gv 4 hN rfl hs v__law_is_great_right_own n_own) (ok_consA (gv 12 hN rfl hs v__law_is_great_right_whole n_whole) ok_nilA (starEach_ok rfl)) (starEach_ok rfl)) (lenA_cons (lenA_cons lenA_nil)) n__law_part.dbg rfl) (ok_consA (ok_app (ok__law_part T) (hr.mono (by decide)) hgd (gl hs v__law_is_great_right__law_part) T.g__law_part T.f__law_part.kp T.b__law_part rfl (ok_consA (ok_blt (ok_sum hc) (gl hs v__law_is_great_right_sum) T.z_sum boot_sum (ok_consA (ok_slc (gv 3 hN rfl hs v__law_is_great_right_ways n_ways) (ok_someP (ok_bin ok_sub (ok_idx (gv 2 hN rfl hs v__law_is_great_right_table n_table) ok_int (plainIx_of rfl)) (gv 10 hN rfl hs v__law_is_great_right_low n_low))) ok_noP) ok_nilA (starEach_ok rfl)) n_sum.nn n_sum.dbg rfl) (ok_consA (gv 12 hN rfl hs v__law_is_great_right_whole n_whole) ok_nilA (starEach_ok rfl)) (starEach_ok rfl)) (lenA_cons (lenA_cons lenA_nil)) n__law_part.dbg rfl) (ok_consA (ok_app (ok__law_part T) (hr.mono (by decide)) hgd (gl hs v__law_is_great_right__law_part) T.g__law_part T.f__law_part.kp T.b__law_part rfl (ok_consA (ok_blt (ok_sum hc) (gl hs v__law_is_great_right_sum) T.z_sum boot_sum (ok_consA (ok_slc (gv 3 hN rfl hs v__law_is_great_right_ways n_ways) ok_noP (ok_someP (ok_bin ok_add (ok_bin ok_sub (ok_idx (gv 2 hN rfl hs v__law_is_great_right_table n_table) ok_int (plainIx_of rfl)) (gv 10 hN rfl hs v__law_is_great_right_low n_low)) ok_int))) ok_nilA (starEach_ok rfl)) n_sum.nn n_sum.dbg rfl) (ok_consA (gv 12 hN rfl hs v__law_is_great_right_whole n_whole) ok_nilA (starEach_ok rfl)) (starEach_ok rfl)) (lenA_cons (lenA_cons lenA_nil)) n__law_part.dbg rfl) ok_nilA (starEach_ok rfl)) (starEach_ok rfl)) (starEach_ok rfl))) (swaps_no rfl))
    (ok_cons (g_asg 5 hN nd rfl hs c__law_is_great_right_due (congrFun hfn _) (ok_bin ok_add (gv 5 hN rfl hs v__law_is_great_right_due n_due) (ok_tupE (ok_consA (ok_app (ok__law_part T) (hr.mono (by decide)) hgd (gl hs v__law_is_great_right__law_part) T.g__law_part T.f__law_part.kp T.b__law_part rfl (ok_consA (ok_blt (ok_sum hc) (gl hs v__law_is_great_right_sum) T.z_sum boot_sum (ok_consA (ok_lc (own := [("one", 15)]) hc (hN ▸ nd) (ok_iterS (gv 3 hN rfl hs v__law_is_great_right_ways n_ways)) (blk_of hN hs (by decide +kernel)) ⟨fun _ _ _ _ _ => (gtb 15 hN nd rfl (by decide +kernel)), fun _ _ _ _ _ => (pts_one (ok_cmpT (ok_le hu) (gvb 15 hN rfl rfl (by decide +kernel) n_one) (gvb 4 hN rfl rfl (by decide +kernel) n_own) rfl)), fun _ _ _ _ _ => (gvb 15 hN rfl rfl (by decide +kernel) n_one)⟩ (own_sub rfl) (fold_no rfl)) ok_nilA (starEach_ok rfl)) n_sum.nn n_sum.dbg rfl) (ok_consA (gv 12 hN rfl hs v__law_is_great_right_whole n_whole) ok_nilA (starEach_ok rfl)) (starEach_ok rfl)) (lenA_cons (lenA_cons lenA_nil)) n__law_part.dbg rfl) (ok_consA (gv 4 hN rfl hs v__law_is_great_right_own n_own) (ok_consA (ok_app (ok__law_kappa T) (hr.mono (by decide)) hgd (gl hs v__law_is_great_right__law_kappa) T.g__law_kappa T.f__law_kappa.kp T.b__law_kappa rfl (ok_consA (gv 2 hN rfl hs v__law_is_great_right_table n_table) ok_nilA (starEach_ok rfl)) (lenA_cons lenA_nil) n__law_kappa.dbg rfl) ok_nilA (starEach_ok rfl)) (starEach_ok rfl)) (starEach_ok rfl)))) (swaps_no rfl))
    (ok_cons (ok_iff (ok_cmpT (ok_ne hu) (ok_blt (ok_repr hu hgd) (gl hs v__law_is_great_right_repr) T.z_repr boot_repr (ok_consA (ok_tupE (ok_consA (ok_app (ok_chance_of T) (hr.mono (by decide)) hgd (gl hs v__law_is_great_right_chance_of) T.g_chance_of T.f_chance_of.kp T.b_chance_of rfl (ok_consA (gv 2 hN rfl hs v__law_is_great_right_table n_table) ok_nilA (starEach_ok rfl)) (lenA_cons lenA_nil) n_chance_of.dbg rfl) (ok_consA (ok_app (ok_share_above T) (hr.mono (by decide)) hgd (gl hs v__law_is_great_right_share_above) T.g_share_above T.f_share_above.kp T.b_share_above rfl (ok_consA (gv 2 hN rfl hs v__law_is_great_right_table n_table) ok_nilA (starEach_ok rfl)) (lenA_cons lenA_nil) n_share_above.dbg rfl) (ok_consA (ok_app (ok_share_below T) (hr.mono (by decide)) hgd (gl hs v__law_is_great_right_share_below) T.g_share_below T.f_share_below.kp T.b_share_below rfl (ok_consA (gv 2 hN rfl hs v__law_is_great_right_table n_table) ok_nilA (starEach_ok rfl)) (lenA_cons lenA_nil) n_share_below.dbg rfl) (ok_consA (ok_app (ok_share_apart T) (hr.mono (by decide)) hgd (gl hs v__law_is_great_right_share_apart) T.g_share_apart T.f_share_apart.kp T.b_share_apart rfl (ok_consA (gv 2 hN rfl hs v__law_is_great_right_table n_table) ok_nilA (starEach_ok rfl)) (lenA_cons lenA_nil) n_share_apart.dbg rfl) (ok_consA (ok_app (ok_ways_of T) (hr.mono (by decide)) hgd (gl hs v__law_is_great_right_ways_of) T.g_ways_of T.f_ways_of.kp T.b_ways_of rfl (ok_consA (gv 2 hN rfl hs v__law_is_great_right_table n_table) ok_nilA (starEach_ok rfl)) (lenA_cons lenA_nil) n_ways_of.dbg rfl) (ok_consA (ok_app (ok_kappa_of T) (hr.mono (by decide)) hgd (gl hs v__law_is_great_right_kappa_of) T.g_kappa_of T.f_kappa_of.kp T.b_kappa_of rfl (ok_consA (gv 2 hN rfl hs v__law_is_great_right_table n_table) ok_nilA (starEach_ok rfl)) (lenA_cons lenA_nil) n_kappa_of.dbg rfl) ok_nilA (starEach_ok rfl)) (starEach_ok rfl)) (starEach_ok rfl)) (starEach_ok rfl)) (starEach_ok rfl)) (starEach_ok rfl))) ok_nilA (starEach_ok rfl)) n_repr.nn n_repr.dbg rfl) (ok_blt (ok_repr hu hgd) (gl hs v__law_is_great_right_repr) T.z_repr boot_repr (ok_consA (gv 5 hN rfl hs v__law_is_great_right_due n_due) ok_nilA (starEach_ok rfl)) n_repr.nn n_repr.dbg rfl) rfl) (ok_one (ok_ret ok_bool)) ok_nil)
    (ok_cons (g_asg 6 hN nd rfl hs c__law_is_great_right_turned (congrFun hfn _) (ok_tupE (ok_consA (ok_idx (gv 2 hN rfl hs v__law_is_great_right_table n_table) ok_int (plainIx_of rfl)) (ok_consA (ok_idx (gv 2 hN rfl hs v__law_is_great_right_table n_table) ok_int (plainIx_of rfl)) (ok_consA (ok_idx (gv 2 hN rfl hs v__law_is_great_right_table n_table) ok_int (plainIx_of rfl)) (ok_consA (ok_idx (gv 2 hN rfl hs v__law_is_great_right_table n_table) ok_int (plainIx_of rfl)) ok_nilA (starEach_ok rfl)) (starEach_ok rfl)) (starEach_ok rfl)) (starEach_ok rfl))) (swaps_no rfl))
    (ok_one (ok_ret (ok_andE (ok_cmp1 (ok_eq hu) (ok_app (ok_share_above T) (hr.mono (by decide)) hgd (gl hs v__law_is_great_right_share_above) T.g_share_above T.f_share_above.kp T.b_share_above rfl (ok_consA (gv 6 hN rfl hs v__law_is_great_right_turned n_turned) ok_nilA (starEach_ok rfl)) (lenA_cons lenA_nil) n_share_above.dbg rfl) (ok_app (ok_share_below T) (hr.mono (by decide)) hgd (gl hs v__law_is_great_right_share_below) T.g_share_below T.f_share_below.kp T.b_share_below rfl (ok_consA (gv 2 hN rfl hs v__law_is_great_right_table n_table) ok_nilA (starEach_ok rfl)) (lenA_cons lenA_nil) n_share_below.dbg rfl) rfl) (pe_one (ok_cmp1 (ok_eq hu) (ok_app (ok_share_above T) (hr.mono (by decide)) hgd (gl hs v__law_is_great_right_share_above) T.g_share_above T.f_share_above.kp T.b_share_above rfl (ok_consA (ok_tupE (ok_consA (ok_idx (gv 2 hN rfl hs v__law_is_great_right_table n_table) ok_int (plainIx_of rfl)) (ok_consA (ok_idx (gv 2 hN rfl hs v__law_is_great_right_table n_table) ok_int (plainIx_of rfl)) (ok_consA (ok_idx (gv 2 hN rfl hs v__law_is_great_right_table n_table) ok_int (plainIx_of rfl)) (ok_consA (ok_idx (gv 2 hN rfl hs v__law_is_great_right_table n_table) ok_int (plainIx_of rfl)) ok_nilA (starEach_ok rfl)) (starEach_ok rfl)) (starEach_ok rfl)) (starEach_ok rfl))) ok_nilA (starEach_ok rfl)) (lenA_cons lenA_nil) n_share_above.dbg rfl) (ok_app (ok_share_above T) (hr.mono (by decide)) hgd (gl hs v__law_is_great_right_share_above) T.g_share_above T.f_share_above.kp T.b_share_above rfl (ok_consA (gv 2 hN rfl hs v__law_is_great_right_table n_table) ok_nilA (starEach_ok rfl)) (lenA_cons lenA_nil) n_share_above.dbg rfl) rfl)))))))))))))))
/-! law -/
theorem sc_law : FnScope ["script", "place", "pot", "lap"] ["script"] (defScope s_law) := ⟨rfl, rfl, rfl, by decide +kernel, rfl, by decide +kernel, by decide +kernel⟩
theorem v_law__law_cells : lk (defScope s_law) "_law_cells" = some .globalImplicit := by decide +kernel
theorem v_law__law_pot : lk (defScope s_law) "_law_pot" = some .globalImplicit := by decide +kernel
theorem v_law_all : lk (defScope s_law) "all" = some .globalImplicit := by decide +kernel
theorem k_law_place : lk (defScope s_law) "place" = some .local := by decide +kernel
theorem v_law_place : kVis (lk (defScope s_law) "place") = true := by rw [k_law_place]; rfl
theorem c_law_place : kLoc (lk (defScope s_law) "place") = true := by rw [k_law_place]; rfl
theorem k_law_pot : lk (defScope s_law) "pot" = some .cell := by decide +kernel
theorem v_law_pot : kVis (lk (defScope s_law) "pot") = true := by rw [k_law_pot]; rfl
theorem c_law_pot : kLoc (lk (defScope s_law) "pot") = true := by rw [k_law_pot]; rfl
theorem v_law_range : lk (defScope s_law) "range" = some .globalImplicit := by decide +kernel
theorem k_law_script : lk (defScope s_law) "script" = some .local := by decide +kernel
theorem v_law_script : kVis (lk (defScope s_law) "script") = true := by rw [k_law_script]; rfl
theorem c_law_script : kLoc (lk (defScope s_law) "script") = true := by rw [k_law_script]; rfl
def m_law : Fn := fnM false 4 (sq (forS (.nm 1) (iterS (app m__law_cells (consA (var 0) (consA (cst (.int 3)) nilA)))) (sq (asg 2 (app m__law_pot (consA (var 0) (consA (var 1) nilA))))
    (iff (notT (tru (blt bAll (consA (lc [3] (.nm 3) (iterR1 (consA (cst (.int 2)) nilA)) yesT (andE (app m__law_are_ways_right (consA (var 2) nilA)) (app m__law_is_great_right (consA (var 2) nilA)))) nilA)))) (retS (cst (.bool false))) skp)))
    (retS (cst (.bool true))))
theorem ok_law {P : Program} {w : World} {K : Frag} {mg : Str → Option Value} {base : Heap} {ad : Nat → Addr} {fd : Nat → FuncData} (T : TX K mg ad fd) : FnG P w K mg base 8 (ad 47) (fd 47) ["script"] m_law := by
  refine fnG_fun T.f_law sc_law fun X e1 e2 e3 e4 e5 hN hs hc hx hfn hgd hr => ?_
  subst e1 e2 e3 e4 e5
  have nd := sc_law.nd
  have hu := hu_room hr
  exact (ok_cons (ok_forS hx hc (ok_iterS (ok_app (ok__law_cells T) (hr.mono (by decide)) hgd (gl hs v_law__law_cells) T.g__law_cells T.f__law_cells.kp T.b__law_cells rfl (ok_consA (gv 0 hN rfl hs v_law_script n_script) (ok_consA ok_int ok_nilA (starEach_ok rfl)) (starEach_ok rfl)) (lenA_cons (lenA_cons lenA_nil)) n__law_cells.dbg rfl)) (gt 1 hN nd rfl hs c_law_place (congrFun hfn _)) (ok_cons (g_asg 2 hN nd rfl hs c_law_pot (congrFun hfn _) (ok_app (ok__law_pot T) (hr.mono (by decide)) hgd (gl hs v_law__law_pot) T.g__law_pot T.f__law_pot.kp T.b__law_pot rfl (ok_consA (gv 0 hN rfl hs v_law_script n_script) (ok_consA (gv 1 hN rfl hs v_law_place n_place) ok_nilA (starEach_ok rfl)) (starEach_ok rfl)) (lenA_cons (lenA_cons lenA_nil)) n__law_pot.dbg rfl) (swaps_no rfl))
    (ok_one (ok_iff (ok_notT (ok_truth (ok_blt (ok_all hc) (gl hs v_law_all) T.z_all boot_all (ok_consA (ok_lc (own := [("lap", 3)]) hc (hN ▸ nd) (ok_iterR1 (gl hs v_law_range) T.z_range (ok_consA ok_int ok_nilA (starEach_ok rfl)) (starEach_ok rfl)) (blk_of hN hs (by decide +kernel)) ⟨fun _ _ _ _ _ => (gtb 3 hN nd rfl (by decide +kernel)), fun _ _ _ _ _ => ok_yes, fun _ _ _ _ _ => (ok_andE (ok_app (ok__law_are_ways_right T) (hr.mono (by decide)) hgd (glb rfl (by decide +kernel)) T.g__law_are_ways_right T.f__law_are_ways_right.kp T.b__law_are_ways_right rfl (ok_consA (gvb 2 hN rfl rfl (by decide +kernel) n_pot) ok_nilA (starEach_ok rfl)) (lenA_cons lenA_nil) n__law_are_ways_right.dbg rfl) (pe_one (ok_app (ok__law_is_great_right T) (hr.mono (by decide)) hgd (glb rfl (by decide +kernel)) T.g__law_is_great_right T.f__law_is_great_right.kp T.b__law_is_great_right rfl (ok_consA (gvb 2 hN rfl rfl (by decide +kernel) n_pot) ok_nilA (starEach_ok rfl)) (lenA_cons lenA_nil) n__law_is_great_right.dbg rfl)))⟩ (own_sub rfl) (fold_no rfl)) ok_nilA (starEach_ok rfl)) n_all.nn n_all.dbg rfl) (fun _ => rfl))) (ok_one (ok_ret ok_bool)) ok_nil))) (fold_no rfl))
    (ok_one (ok_ret ok_bool)))
/-! the head -/
theorem all_mk {l : PySem.W.OpenLaw} {w : World} {K : Frag} {h : Heap} {mg : Str → Option Value} {fa : Addr} (X : K.In h) (G : h.Ns mainGlobals mg) (hfa : mg "law" = some (.ref fa))
    {f0 f1 f2 f3 f4 f5 f6 f7 f8 f9 f10 f11 f12 f13 f14 f15 f16 f17 f18 f19 f20 f21 f22 f23 f24 f25 f26 f27 f28 f29 f30 f31 f32 f33 f34 f35 f36 f37 f38 f39 f40 f41 f42 f43 f44 f45 f46 f47 : Addr} {od0 an0 od1 an1 od2 an2 od3 an3 od4 an4 od5 an5 od6 an6 od7 an7 od8 an8 od9 an9 od10 an10 od11 an11 od12 an12 od13 an13 od14 an14 od15 an15 od16 an16 od17 an17 od18 an18 od19 an19 od20 an20 od21 an21 od22 an22 od23 an23 od24 an24 od25 an25 od26 an26 od27 an27 od28 an28 od29 an29 od30 an30 od31 an31 od32 an32 od33 an33 od34 an34 od35 an35 od36 an36 od37 an37 od38 an38 od39 an39 od40 an40 od41 an41 od42 an42 od43 an43 od44 an44 od45 an45 od46 an46 od47 an47 : Option Addr} {sl0 sl1 sl2 sl3 sl4 sl5 sl6 sl7 sl8 sl9 sl10 sl11 sl12 sl13 sl14 sl15 sl16 sl17 sl18 sl19 sl20 sl21 sl22 sl23 sl24 sl25 sl26 sl27 sl28 sl29 sl30 sl31 sl32 sl33 sl34 sl35 sl36 sl37 sl38 sl39 sl40 sl41 sl42 sl43 sl44 sl45 sl46 sl47 : Array (Option Value)} {oc0 kV0 dc0 pm0 cd0 ct0 oc1 kV1 dc1 pm1 cd1 ct1 oc2 kV2 dc2 pm2 cd2 ct2 oc3 kV3 dc3 pm3 cd3 ct3 oc4 kV4 dc4 pm4 cd4 ct4 oc5 kV5 dc5 pm5 cd5 ct5 oc6 kV6 dc6 pm6 cd6 ct6 oc7 kV7 dc7 pm7 cd7 ct7 oc8 kV8 dc8 pm8 cd8 ct8 oc9 kV9 dc9 pm9 cd9 ct9 oc10 kV10 dc10 pm10 cd10 ct10 oc11 kV11 dc11 pm11 cd11 ct11 oc12 kV12 dc12 pm12 cd12 ct12 oc13 kV13 dc13 pm13 cd13 ct13 oc14 kV14 dc14 pm14 cd14 ct14 oc15 kV15 dc15 pm15 cd15 ct15 oc16 kV16 dc16 pm16 cd16 ct16 oc17 kV17 dc17 pm17 cd17 ct17 oc18 kV18 dc18 pm18 cd18 ct18 oc19 kV19 dc19 pm19 cd19 ct19 oc20 kV20 dc20 pm20 cd20 ct20 oc21 kV21 dc21 pm21 cd21 ct21 oc22 kV22 dc22 pm22 cd22 ct22 oc23 kV23 dc23 pm23 cd23 ct23 oc24 kV24 dc24 pm24 cd24 ct24 oc25 kV25 dc25 pm25 cd25 ct25 oc26 kV26 dc26 pm26 cd26 ct26 oc27 kV27 dc27 pm27 cd27 ct27 oc28 kV28 dc28 pm28 cd28 ct28 oc29 kV29 dc29 pm29 cd29 ct29 oc30 kV30 dc30 pm30 cd30 ct30 oc31 kV31 dc31 pm31 cd31 ct31 oc32 kV32 dc32 pm32 cd32 ct32 oc33 kV33 dc33 pm33 cd33 ct33 oc34 kV34 dc34 pm34 cd34 ct34 oc35 kV35 dc35 pm35 cd35 ct35 oc36 kV36 dc36 pm36 cd36 ct36 oc37 kV37 dc37 pm37 cd37 ct37 oc38 kV38 dc38 pm38 cd38 ct38 oc39 kV39 dc39 pm39 cd39 ct39 oc40 kV40 dc40 pm40 cd40 ct40 oc41 kV41 dc41 pm41 cd41 ct41 oc42 kV42 dc42 pm42 cd42 ct42 oc43 kV43 dc43 pm43 cd43 ct43 oc44 kV44 dc44 pm44 cd44 ct44 oc45 kV45 dc45 pm45 cd45 ct45 oc46 kV46 dc46 pm46 cd46 ct46 oc47 kV47 dc47 pm47 cd47 ct47 : Value}
    (a0 : PySem.W.nsIn K mainGlobals "is_integer" = some (some (.ref f0))) (l0 : K.lookup f0 = some ⟨oc0, od0, .func (PySem.W.fnOf "is_integer" "is_integer" (defArgs s_is_integer) (defBody s_is_integer) (defScope s_is_integer) .none kV0 dc0 pm0 an0 cd0 ct0), sl0⟩) (c0 : PySem.W.codeIn K cd0 "is_integer" = true) (k0 : PySem.W.keepIn K (.ref f0) = true)
    (a1 : PySem.W.nsIn K mainGlobals "is_between" = some (some (.ref f1))) (l1 : K.lookup f1 = some ⟨oc1, od1, .func (PySem.W.fnOf "is_between" "is_between" (defArgs s_is_between) (defBody s_is_between) (defScope s_is_between) .none kV1 dc1 pm1 an1 cd1 ct1), sl1⟩) (c1 : PySem.W.codeIn K cd1 "is_between" = true) (k1 : PySem.W.keepIn K (.ref f1) = true)
    (a2 : PySem.W.nsIn K mainGlobals "are_between" = some (some (.ref f2))) (l2 : K.lookup f2 = some ⟨oc2, od2, .func (PySem.W.fnOf "are_between" "are_between" (defArgs s_are_between) (defBody s_are_between) (defScope s_are_between) .none kV2 dc2 pm2 an2 cd2 ct2), sl2⟩) (c2 : PySem.W.codeIn K cd2 "are_between" = true) (k2 : PySem.W.keepIn K (.ref f2) = true)
    (a3 : PySem.W.nsIn K mainGlobals "is_tuple_of" = some (some (.ref f3))) (l3 : K.lookup f3 = some ⟨oc3, od3, .func (PySem.W.fnOf "is_tuple_of" "is_tuple_of" (defArgs s_is_tuple_of) (defBody s_is_tuple_of) (defScope s_is_tuple_of) .none kV3 dc3 pm3 an3 cd3 ct3), sl3⟩) (c3 : PySem.W.codeIn K cd3 "is_tuple_of" = true) (k3 : PySem.W.keepIn K (.ref f3) = true)
    (a4 : PySem.W.nsIn K mainGlobals "common" = some (some (.ref f4))) (l4 : K.lookup f4 = some ⟨oc4, od4, .func (PySem.W.fnOf "common" "common" (defArgs s_common) (defBody s_common) (defScope s_common) .none kV4 dc4 pm4 an4 cd4 ct4), sl4⟩) (c4 : PySem.W.codeIn K cd4 "common" = true) (k4 : PySem.W.keepIn K (.ref f4) = true)
    (a5 : PySem.W.nsIn K mainGlobals "part" = some (some (.ref f5))) (l5 : K.lookup f5 = some ⟨oc5, od5, .func (PySem.W.fnOf "part" "part" (defArgs s_part) (defBody s_part) (defScope s_part) .none kV5 dc5 pm5 an5 cd5 ct5), sl5⟩) (c5 : PySem.W.codeIn K cd5 "part" = true) (k5 : PySem.W.keepIn K (.ref f5) = true)
    (a6 : PySem.W.nsIn K mainGlobals "is_fraction" = some (some (.ref f6))) (l6 : K.lookup f6 = some ⟨oc6, od6, .func (PySem.W.fnOf "is_fraction" "is_fraction" (defArgs s_is_fraction) (defBody s_is_fraction) (defScope s_is_fraction) .none kV6 dc6 pm6 an6 cd6 ct6), sl6⟩) (c6 : PySem.W.codeIn K cd6 "is_fraction" = true) (k6 : PySem.W.keepIn K (.ref f6) = true)
    (a7 : PySem.W.nsIn K mainGlobals "minus" = some (some (.ref f7))) (l7 : K.lookup f7 = some ⟨oc7, od7, .func (PySem.W.fnOf "minus" "minus" (defArgs s_minus) (defBody s_minus) (defScope s_minus) .none kV7 dc7 pm7 an7 cd7 ct7), sl7⟩) (c7 : PySem.W.codeIn K cd7 "minus" = true) (k7 : PySem.W.keepIn K (.ref f7) = true)
    (a8 : PySem.W.nsIn K mainGlobals "through" = some (some (.ref f8))) (l8 : K.lookup f8 = some ⟨oc8, od8, .func (PySem.W.fnOf "through" "through" (defArgs s_through) (defBody s_through) (defScope s_through) .none kV8 dc8 pm8 an8 cd8 ct8), sl8⟩) (c8 : PySem.W.codeIn K cd8 "through" = true) (k8 : PySem.W.keepIn K (.ref f8) = true)
    (a9 : PySem.W.nsIn K mainGlobals "is_less" = some (some (.ref f9))) (l9 : K.lookup f9 = some ⟨oc9, od9, .func (PySem.W.fnOf "is_less" "is_less" (defArgs s_is_less) (defBody s_is_less) (defScope s_is_less) .none kV9 dc9 pm9 an9 cd9 ct9), sl9⟩) (c9 : PySem.W.codeIn K cd9 "is_less" = true) (k9 : PySem.W.keepIn K (.ref f9) = true)
    (a10 : PySem.W.nsIn K mainGlobals "choose" = some (some (.ref f10))) (l10 : K.lookup f10 = some ⟨oc10, od10, .func (PySem.W.fnOf "choose" "choose" (defArgs s_choose) (defBody s_choose) (defScope s_choose) .none kV10 dc10 pm10 an10 cd10 ct10), sl10⟩) (c10 : PySem.W.codeIn K cd10 "choose" = true) (k10 : PySem.W.keepIn K (.ref f10) = true)
    (a11 : PySem.W.nsIn K mainGlobals "is_table_of" = some (some (.ref f11))) (l11 : K.lookup f11 = some ⟨oc11, od11, .func (PySem.W.fnOf "is_table_of" "is_table_of" (defArgs s_is_table_of) (defBody s_is_table_of) (defScope s_is_table_of) .none kV11 dc11 pm11 an11 cd11 ct11), sl11⟩) (c11 : PySem.W.codeIn K cd11 "is_table_of" = true) (k11 : PySem.W.keepIn K (.ref f11) = true)
    (a12 : PySem.W.nsIn K mainGlobals "is_table" = some (some (.ref f12))) (l12 : K.lookup f12 = some ⟨oc12, od12, .func (PySem.W.fnOf "is_table" "is_table" (defArgs s_is_table) (defBody s_is_table) (defScope s_is_table) .none kV12 dc12 pm12 an12 cd12 ct12), sl12⟩) (c12 : PySem.W.codeIn K cd12 "is_table" = true) (k12 : PySem.W.keepIn K (.ref f12) = true)
    (a13 : PySem.W.nsIn K mainGlobals "are_margins_of" = some (some (.ref f13))) (l13 : K.lookup f13 = some ⟨oc13, od13, .func (PySem.W.fnOf "are_margins_of" "are_margins_of" (defArgs s_are_margins_of) (defBody s_are_margins_of) (defScope s_are_margins_of) .none kV13 dc13 pm13 an13 cd13 ct13), sl13⟩) (c13 : PySem.W.codeIn K cd13 "are_margins_of" = true) (k13 : PySem.W.keepIn K (.ref f13) = true)
    (a14 : PySem.W.nsIn K mainGlobals "are_margins" = some (some (.ref f14))) (l14 : K.lookup f14 = some ⟨oc14, od14, .func (PySem.W.fnOf "are_margins" "are_margins" (defArgs s_are_margins) (defBody s_are_margins) (defScope s_are_margins) .none kV14 dc14 pm14 an14 cd14 ct14), sl14⟩) (c14 : PySem.W.codeIn K cd14 "are_margins" = true) (k14 : PySem.W.keepIn K (.ref f14) = true)
    (a15 : PySem.W.nsIn K mainGlobals "check_table" = some (some (.ref f15))) (l15 : K.lookup f15 = some ⟨oc15, od15, .func (PySem.W.fnOf "check_table" "check_table" (defArgs s_check_table) (defBody s_check_table) (defScope s_check_table) .none kV15 dc15 pm15 an15 cd15 ct15), sl15⟩) (c15 : PySem.W.codeIn K cd15 "check_table" = true) (k15 : PySem.W.keepIn K (.ref f15) = true)
    (a16 : PySem.W.nsIn K mainGlobals "check_margins" = some (some (.ref f16))) (l16 : K.lookup f16 = some ⟨oc16, od16, .func (PySem.W.fnOf "check_margins" "check_margins" (defArgs s_check_margins) (defBody s_check_margins) (defScope s_check_margins) .none kV16 dc16 pm16 an16 cd16 ct16), sl16⟩) (c16 : PySem.W.codeIn K cd16 "check_margins" = true) (k16 : PySem.W.keepIn K (.ref f16) = true)
    (a17 : PySem.W.nsIn K mainGlobals "margins_by" = some (some (.ref f17))) (l17 : K.lookup f17 = some ⟨oc17, od17, .func (PySem.W.fnOf "margins_by" "margins_by" (defArgs s_margins_by) (defBody s_margins_by) (defScope s_margins_by) .none kV17 dc17 pm17 an17 cd17 ct17), sl17⟩) (c17 : PySem.W.codeIn K cd17 "margins_by" = true) (k17 : PySem.W.keepIn K (.ref f17) = true)
    (a18 : PySem.W.nsIn K mainGlobals "margins_of" = some (some (.ref f18))) (l18 : K.lookup f18 = some ⟨oc18, od18, .func (PySem.W.fnOf "margins_of" "margins_of" (defArgs s_margins_of) (defBody s_margins_of) (defScope s_margins_of) .none kV18 dc18 pm18 an18 cd18 ct18), sl18⟩) (c18 : PySem.W.codeIn K cd18 "margins_of" = true) (k18 : PySem.W.keepIn K (.ref f18) = true)
    (a19 : PySem.W.nsIn K mainGlobals "tables_by" = some (some (.ref f19))) (l19 : K.lookup f19 = some ⟨oc19, od19, .func (PySem.W.fnOf "tables_by" "tables_by" (defArgs s_tables_by) (defBody s_tables_by) (defScope s_tables_by) .none kV19 dc19 pm19 an19 cd19 ct19), sl19⟩) (c19 : PySem.W.codeIn K cd19 "tables_by" = true) (k19 : PySem.W.keepIn K (.ref f19) = true)
    (a20 : PySem.W.nsIn K mainGlobals "tables_of" = some (some (.ref f20))) (l20 : K.lookup f20 = some ⟨oc20, od20, .func (PySem.W.fnOf "tables_of" "tables_of" (defArgs s_tables_of) (defBody s_tables_of) (defScope s_tables_of) .none kV20 dc20 pm20 an20 cd20 ct20), sl20⟩) (c20 : PySem.W.codeIn K cd20 "tables_of" = true) (k20 : PySem.W.keepIn K (.ref f20) = true)
    (a21 : PySem.W.nsIn K mainGlobals "ways_by" = some (some (.ref f21))) (l21 : K.lookup f21 = some ⟨oc21, od21, .func (PySem.W.fnOf "ways_by" "ways_by" (defArgs s_ways_by) (defBody s_ways_by) (defScope s_ways_by) .none kV21 dc21 pm21 an21 cd21 ct21), sl21⟩) (c21 : PySem.W.codeIn K cd21 "ways_by" = true) (k21 : PySem.W.keepIn K (.ref f21) = true)
    (a22 : PySem.W.nsIn K mainGlobals "ways_of" = some (some (.ref f22))) (l22 : K.lookup f22 = some ⟨oc22, od22, .func (PySem.W.fnOf "ways_of" "ways_of" (defArgs s_ways_of) (defBody s_ways_of) (defScope s_ways_of) .none kV22 dc22 pm22 an22 cd22 ct22), sl22⟩) (c22 : PySem.W.codeIn K cd22 "ways_of" = true) (k22 : PySem.W.keepIn K (.ref f22) = true)
    (a23 : PySem.W.nsIn K mainGlobals "part_of" = some (some (.ref f23))) (l23 : K.lookup f23 = some ⟨oc23, od23, .func (PySem.W.fnOf "part_of" "part_of" (defArgs s_part_of) (defBody s_part_of) (defScope s_part_of) .none kV23 dc23 pm23 an23 cd23 ct23), sl23⟩) (c23 : PySem.W.codeIn K cd23 "part_of" = true) (k23 : PySem.W.keepIn K (.ref f23) = true)
    (a24 : PySem.W.nsIn K mainGlobals "chance_of" = some (some (.ref f24))) (l24 : K.lookup f24 = some ⟨oc24, od24, .func (PySem.W.fnOf "chance_of" "chance_of" (defArgs s_chance_of) (defBody s_chance_of) (defScope s_chance_of) .none kV24 dc24 pm24 an24 cd24 ct24), sl24⟩) (c24 : PySem.W.codeIn K cd24 "chance_of" = true) (k24 : PySem.W.keepIn K (.ref f24) = true)
    (a25 : PySem.W.nsIn K mainGlobals "alike_by" = some (some (.ref f25))) (l25 : K.lookup f25 = some ⟨oc25, od25, .func (PySem.W.fnOf "alike_by" "alike_by" (defArgs s_alike_by) (defBody s_alike_by) (defScope s_alike_by) .none kV25 dc25 pm25 an25 cd25 ct25), sl25⟩) (c25 : PySem.W.codeIn K cd25 "alike_by" = true) (k25 : PySem.W.keepIn K (.ref f25) = true)
    (a26 : PySem.W.nsIn K mainGlobals "alike_of" = some (some (.ref f26))) (l26 : K.lookup f26 = some ⟨oc26, od26, .func (PySem.W.fnOf "alike_of" "alike_of" (defArgs s_alike_of) (defBody s_alike_of) (defScope s_alike_of) .none kV26 dc26 pm26 an26 cd26 ct26), sl26⟩) (c26 : PySem.W.codeIn K cd26 "alike_of" = true) (k26 : PySem.W.keepIn K (.ref f26) = true)
    (a27 : PySem.W.nsIn K mainGlobals "kappa_of" = some (some (.ref f27))) (l27 : K.lookup f27 = some ⟨oc27, od27, .func (PySem.W.fnOf "kappa_of" "kappa_of" (defArgs s_kappa_of) (defBody s_kappa_of) (defScope s_kappa_of) .none kV27 dc27 pm27 an27 cd27 ct27), sl27⟩) (c27 : PySem.W.codeIn K cd27 "kappa_of" = true) (k27 : PySem.W.keepIn K (.ref f27) = true)
    (a28 : PySem.W.nsIn K mainGlobals "alike_between" = some (some (.ref f28))) (l28 : K.lookup f28 = some ⟨oc28, od28, .func (PySem.W.fnOf "alike_between" "alike_between" (defArgs s_alike_between) (defBody s_alike_between) (defScope s_alike_between) .none kV28 dc28 pm28 an28 cd28 ct28), sl28⟩) (c28 : PySem.W.codeIn K cd28 "alike_between" = true) (k28 : PySem.W.keepIn K (.ref f28) = true)
    (a29 : PySem.W.nsIn K mainGlobals "share_above_by" = some (some (.ref f29))) (l29 : K.lookup f29 = some ⟨oc29, od29, .func (PySem.W.fnOf "share_above_by" "share_above_by" (defArgs s_share_above_by) (defBody s_share_above_by) (defScope s_share_above_by) .none kV29 dc29 pm29 an29 cd29 ct29), sl29⟩) (c29 : PySem.W.codeIn K cd29 "share_above_by" = true) (k29 : PySem.W.keepIn K (.ref f29) = true)
    (a30 : PySem.W.nsIn K mainGlobals "share_above" = some (some (.ref f30))) (l30 : K.lookup f30 = some ⟨oc30, od30, .func (PySem.W.fnOf "share_above" "share_above" (defArgs s_share_above) (defBody s_share_above) (defScope s_share_above) .none kV30 dc30 pm30 an30 cd30 ct30), sl30⟩) (c30 : PySem.W.codeIn K cd30 "share_above" = true) (k30 : PySem.W.keepIn K (.ref f30) = true)
    (a31 : PySem.W.nsIn K mainGlobals "share_below" = some (some (.ref f31))) (l31 : K.lookup f31 = some ⟨oc31, od31, .func (PySem.W.fnOf "share_below" "share_below" (defArgs s_share_below) (defBody s_share_below) (defScope s_share_below) .none kV31 dc31 pm31 an31 cd31 ct31), sl31⟩) (c31 : PySem.W.codeIn K cd31 "share_below" = true) (k31 : PySem.W.keepIn K (.ref f31) = true)
    (a32 : PySem.W.nsIn K mainGlobals "share_apart" = some (some (.ref f32))) (l32 : K.lookup f32 = some ⟨oc32, od32, .func (PySem.W.fnOf "share_apart" "share_apart" (defArgs s_share_apart) (defBody s_share_apart) (defScope s_share_apart) .none kV32 dc32 pm32 an32 cd32 ct32), sl32⟩) (c32 : PySem.W.codeIn K cd32 "share_apart" = true) (k32 : PySem.W.keepIn K (.ref f32) = true)
    (a33 : PySem.W.nsIn K mainGlobals "needed" = some (some (.ref f33))) (l33 : K.lookup f33 = some ⟨oc33, od33, .func (PySem.W.fnOf "needed" "needed" (defArgs s_needed) (defBody s_needed) (defScope s_needed) .none kV33 dc33 pm33 an33 cd33 ct33), sl33⟩) (c33 : PySem.W.codeIn K cd33 "needed" = true) (k33 : PySem.W.keepIn K (.ref f33) = true)
    (a34 : PySem.W.nsIn K mainGlobals "_law_pot" = some (some (.ref f34))) (l34 : K.lookup f34 = some ⟨oc34, od34, .func (PySem.W.fnOf "_law_pot" "_law_pot" (defArgs s__law_pot) (defBody s__law_pot) (defScope s__law_pot) .none kV34 dc34 pm34 an34 cd34 ct34), sl34⟩) (c34 : PySem.W.codeIn K cd34 "_law_pot" = true) (k34 : PySem.W.keepIn K (.ref f34) = true)
    (a35 : PySem.W.nsIn K mainGlobals "_law_take" = some (some (.ref f35))) (l35 : K.lookup f35 = some ⟨oc35, od35, .func (PySem.W.fnOf "_law_take" "_law_take" (defArgs s__law_take) (defBody s__law_take) (defScope s__law_take) .none kV35 dc35 pm35 an35 cd35 ct35), sl35⟩) (c35 : PySem.W.codeIn K cd35 "_law_take" = true) (k35 : PySem.W.keepIn K (.ref f35) = true)
    (a36 : PySem.W.nsIn K mainGlobals "_law_cells" = some (some (.ref f36))) (l36 : K.lookup f36 = some ⟨oc36, od36, .func (PySem.W.fnOf "_law_cells" "_law_cells" (defArgs s__law_cells) (defBody s__law_cells) (defScope s__law_cells) .none kV36 dc36 pm36 an36 cd36 ct36), sl36⟩) (c36 : PySem.W.codeIn K cd36 "_law_cells" = true) (k36 : PySem.W.keepIn K (.ref f36) = true)
    (a37 : PySem.W.nsIn K mainGlobals "_law_part" = some (some (.ref f37))) (l37 : K.lookup f37 = some ⟨oc37, od37, .func (PySem.W.fnOf "_law_part" "_law_part" (defArgs s__law_part) (defBody s__law_part) (defScope s__law_part) .none kV37 dc37 pm37 an37 cd37 ct37), sl37⟩) (c37 : PySem.W.codeIn K cd37 "_law_part" = true) (k37 : PySem.W.keepIn K (.ref f37) = true)
    (a38 : PySem.W.nsIn K mainGlobals "_law_plus" = some (some (.ref f38))) (l38 : K.lookup f38 = some ⟨oc38, od38, .func (PySem.W.fnOf "_law_plus" "_law_plus" (defArgs s__law_plus) (defBody s__law_plus) (defScope s__law_plus) .none kV38 dc38 pm38 an38 cd38 ct38), sl38⟩) (c38 : PySem.W.codeIn K cd38 "_law_plus" = true) (k38 : PySem.W.keepIn K (.ref f38) = true)
    (a39 : PySem.W.nsIn K mainGlobals "_law_sum" = some (some (.ref f39))) (l39 : K.lookup f39 = some ⟨oc39, od39, .func (PySem.W.fnOf "_law_sum" "_law_sum" (defArgs s__law_sum) (defBody s__law_sum) (defScope s__law_sum) .none kV39 dc39 pm39 an39 cd39 ct39), sl39⟩) (c39 : PySem.W.codeIn K cd39 "_law_sum" = true) (k39 : PySem.W.keepIn K (.ref f39) = true)
    (a40 : PySem.W.nsIn K mainGlobals "_law_less" = some (some (.ref f40))) (l40 : K.lookup f40 = some ⟨oc40, od40, .func (PySem.W.fnOf "_law_less" "_law_less" (defArgs s__law_less) (defBody s__law_less) (defScope s__law_less) .none kV40 dc40 pm40 an40 cd40 ct40), sl40⟩) (c40 : PySem.W.codeIn K cd40 "_law_less" = true) (k40 : PySem.W.keepIn K (.ref f40) = true)
    (a41 : PySem.W.nsIn K mainGlobals "_law_choose" = some (some (.ref f41))) (l41 : K.lookup f41 = some ⟨oc41, od41, .func (PySem.W.fnOf "_law_choose" "_law_choose" (defArgs s__law_choose) (defBody s__law_choose) (defScope s__law_choose) .none kV41 dc41 pm41 an41 cd41 ct41), sl41⟩) (c41 : PySem.W.codeIn K cd41 "_law_choose" = true) (k41 : PySem.W.keepIn K (.ref f41) = true)
    (a42 : PySem.W.nsIn K mainGlobals "_law_lots" = some (some (.ref f42))) (l42 : K.lookup f42 = some ⟨oc42, od42, .func (PySem.W.fnOf "_law_lots" "_law_lots" (defArgs s__law_lots) (defBody s__law_lots) (defScope s__law_lots) .none kV42 dc42 pm42 an42 cd42 ct42), sl42⟩) (c42 : PySem.W.codeIn K cd42 "_law_lots" = true) (k42 : PySem.W.keepIn K (.ref f42) = true)
    (a43 : PySem.W.nsIn K mainGlobals "_law_kappa" = some (some (.ref f43))) (l43 : K.lookup f43 = some ⟨oc43, od43, .func (PySem.W.fnOf "_law_kappa" "_law_kappa" (defArgs s__law_kappa) (defBody s__law_kappa) (defScope s__law_kappa) .none kV43 dc43 pm43 an43 cd43 ct43), sl43⟩) (c43 : PySem.W.codeIn K cd43 "_law_kappa" = true) (k43 : PySem.W.keepIn K (.ref f43) = true)
    (a44 : PySem.W.nsIn K mainGlobals "_law_is_share_fair" = some (some (.ref f44))) (l44 : K.lookup f44 = some ⟨oc44, od44, .func (PySem.W.fnOf "_law_is_share_fair" "_law_is_share_fair" (defArgs s__law_is_share_fair) (defBody s__law_is_share_fair) (defScope s__law_is_share_fair) .none kV44 dc44 pm44 an44 cd44 ct44), sl44⟩) (c44 : PySem.W.codeIn K cd44 "_law_is_share_fair" = true) (k44 : PySem.W.keepIn K (.ref f44) = true)
    (a45 : PySem.W.nsIn K mainGlobals "_law_are_ways_right" = some (some (.ref f45))) (l45 : K.lookup f45 = some ⟨oc45, od45, .func (PySem.W.fnOf "_law_are_ways_right" "_law_are_ways_right" (defArgs s__law_are_ways_right) (defBody s__law_are_ways_right) (defScope s__law_are_ways_right) .none kV45 dc45 pm45 an45 cd45 ct45), sl45⟩) (c45 : PySem.W.codeIn K cd45 "_law_are_ways_right" = true) (k45 : PySem.W.keepIn K (.ref f45) = true)
    (a46 : PySem.W.nsIn K mainGlobals "_law_is_great_right" = some (some (.ref f46))) (l46 : K.lookup f46 = some ⟨oc46, od46, .func (PySem.W.fnOf "_law_is_great_right" "_law_is_great_right" (defArgs s__law_is_great_right) (defBody s__law_is_great_right) (defScope s__law_is_great_right) .none kV46 dc46 pm46 an46 cd46 ct46), sl46⟩) (c46 : PySem.W.codeIn K cd46 "_law_is_great_right" = true) (k46 : PySem.W.keepIn K (.ref f46) = true)
    (a47 : PySem.W.nsIn K mainGlobals "law" = some (some (.ref f47))) (l47 : K.lookup f47 = some ⟨oc47, od47, .func (PySem.W.fnOf "law" "law" (defArgs s_law) (defBody s_law) (defScope s_law) .none kV47 dc47 pm47 an47 cd47 ct47), sl47⟩) (c47 : PySem.W.codeIn K cd47 "law" = true) (k47 : PySem.W.keepIn K (.ref f47) = true)
    (z_abs : PySem.W.nsIn K mainGlobals "abs" = some none)
    (z_all : PySem.W.nsIn K mainGlobals "all" = some none)
    (z_bool : PySem.W.nsIn K mainGlobals "bool" = some none)
    (z_int : PySem.W.nsIn K mainGlobals "int" = some none)
    (z_isinstance : PySem.W.nsIn K mainGlobals "isinstance" = some none)
    (z_len : PySem.W.nsIn K mainGlobals "len" = some none)
    (z_list : PySem.W.nsIn K mainGlobals "list" = some none)
    (z_max : PySem.W.nsIn K mainGlobals "max" = some none)
    (z_min : PySem.W.nsIn K mainGlobals "min" = some none)
    (z_range : PySem.W.nsIn K mainGlobals "range" = some none)
    (z_repr : PySem.W.nsIn K mainGlobals "repr" = some none)
    (z_set : PySem.W.nsIn K mainGlobals "set" = some none)
    (z_sorted : PySem.W.nsIn K mainGlobals "sorted" = some none)
    (z_sum : PySem.W.nsIn K mainGlobals "sum" = some none)
    (z_tuple : PySem.W.nsIn K mainGlobals "tuple" = some none)
    (z_zip : PySem.W.nsIn K mainGlobals "zip" = some none)
    {u_MOST_THINGS : Value} (g_MOST_THINGS : PySem.W.nsIn K mainGlobals "MOST_THINGS" = some (some u_MOST_THINGS)) (r_MOST_THINGS : RelV (.int 60) u_MOST_THINGS)
    : ∃ fd : FuncData, (∀ (s : Shared) (v : Value), BindsTo s fd ⟨[v], []⟩ [("script", v)]) ∧ ∀ base : Heap, K.In base → base.Ns mainGlobals mg → FnG l.prog w K mg base 8 fa fd ["script"] m_law := by
  have T : TX K mg (fun i => [f0, f1, f2, f3, f4, f5, f6, f7, f8, f9, f10, f11, f12, f13, f14, f15, f16, f17, f18, f19, f20, f21, f22, f23, f24, f25, f26, f27, f28, f29, f30, f31, f32, f33, f34, f35, f36, f37, f38, f39, f40, f41, f42, f43, f44, f45, f46, f47].getD i 0)
    (fun i => [(PySem.W.fnOf "is_integer" "is_integer" (defArgs s_is_integer) (defBody s_is_integer) (defScope s_is_integer) .none kV0 dc0 pm0 an0 cd0 ct0), (PySem.W.fnOf "is_between" "is_between" (defArgs s_is_between) (defBody s_is_between) (defScope s_is_between) .none kV1 dc1 pm1 an1 cd1 ct1), (PySem.W.fnOf "are_between" "are_between" (defArgs s_are_between) (defBody s_are_between) (defScope s_are_between) .none kV2 dc2 pm2 an2 cd2 ct2), (PySem.W.fnOf "is_tuple_of" "is_tuple_of" (defArgs s_is_tuple_of) (defBody s_is_tuple_of) (defScope s_is_tuple_of) .none kV3 dc3 pm3 an3 cd3 ct3), (PySem.W.fnOf "common" "common" (defArgs s_common) (defBody s_common) (defScope s_common) .none kV4 dc4 pm4 an4 cd4 ct4), (PySem.W.fnOf "part" "part" (defArgs s_part) (defBody s_part) (defScope s_part) .none kV5 dc5 pm5 an5 cd5 ct5), (PySem.W.fnOf "is_fraction" "is_fraction" (defArgs s_is_fraction) (defBody s_is_fraction) (defScope s_is_fraction) .none kV6 dc6 pm6 an6 cd6 ct6), (PySem.W.fnOf "minus" "minus" (defArgs s_minus) (defBody s_minus) (defScope s_minus) .none kV7 dc7 pm7 an7 cd7 ct7), (PySem.W.fnOf "through" "through" (defArgs s_through) (defBody s_through) (defScope s_through) .none kV8 dc8 pm8 an8 cd8 ct8), (PySem.W.fnOf "is_less" "is_less" (defArgs s_is_less) (defBody s_is_less) (defScope s_is_less) .none kV9 dc9 pm9 an9 cd9 ct9), (PySem.W.fnOf "choose" "choose" (defArgs s_choose) (defBody s_choose) (defScope s_choose) .none kV10 dc10 pm10 an10 cd10 ct10), (PySem.W.fnOf "is_table_of" "is_table_of" (defArgs s_is_table_of) (defBody s_is_table_of) (defScope s_is_table_of) .none kV11 dc11 pm11 an11 cd11 ct11), (PySem.W.fnOf "is_table" "is_table" (defArgs s_is_table) (defBody s_is_table) (defScope s_is_table) .none kV12 dc12 pm12 an12 cd12 ct12), (PySem.W.fnOf "are_margins_of" "are_margins_of" (defArgs s_are_margins_of) (defBody s_are_margins_of) (defScope s_are_margins_of) .none kV13 dc13 pm13 an13 cd13 ct13), (PySem.W.fnOf "are_margins" "are_margins" (defArgs s_are_margins) (defBody s_are_margins) (defScope s_are_margins) .none kV14 dc14 pm14 an14 cd14 ct14), (PySem.W.fnOf "check_table" "check_table" (defArgs s_check_table) (defBody s_check_table) (defScope s_check_table) .none kV15 dc15 pm15 an15 cd15 ct15), (PySem.W.fnOf "check_margins" "check_margins" (defArgs s_check_margins) (defBody s_check_margins) (defScope s_check_margins) .none kV16 dc16 pm16 an16 cd16 ct16), (PySem.W.fnOf "margins_by" "margins_by" (defArgs s_margins_by) (defBody s_margins_by) (defScope s_margins_by) .none kV17 dc17 pm17 an17 cd17 ct17), (PySem.W.fnOf "margins_of" "margins_of" (defArgs s_margins_of) (defBody s_margins_of) (defScope s_margins_of) .none kV18 dc18 pm18 an18 cd18 ct18), (PySem.W.fnOf "tables_by" "tables_by" (defArgs s_tables_by) (defBody s_tables_by) (defScope s_tables_by) .none kV19 dc19 pm19 an19 cd19 ct19), (PySem.W.fnOf "tables_of" "tables_of" (defArgs s_tables_of) (defBody s_tables_of) (defScope s_tables_of) .none kV20 dc20 pm20 an20 cd20 ct20), (PySem.W.fnOf "ways_by" "ways_by" (defArgs s_ways_by) (defBody s_ways_by) (defScope s_ways_by) .none kV21 dc21 pm21 an21 cd21 ct21), (PySem.W.fnOf "ways_of" "ways_of" (defArgs s_ways_of) (defBody s_ways_of) (defScope s_ways_of) .none kV22 dc22 pm22 an22 cd22 ct22), (PySem.W.fnOf "part_of" "part_of" (defArgs s_part_of) (defBody s_part_of) (defScope s_part_of) .none kV23 dc23 pm23 an23 cd23 ct23), (PySem.W.fnOf "chance_of" "chance_of" (defArgs s_chance_of) (defBody s_chance_of) (defScope s_chance_of) .none kV24 dc24 pm24 an24 cd24 ct24), (PySem.W.fnOf "alike_by" "alike_by" (defArgs s_alike_by) (defBody s_alike_by) (defScope s_alike_by) .none kV25 dc25 pm25 an25 cd25 ct25), (PySem.W.fnOf "alike_of" "alike_of" (defArgs s_alike_of) (defBody s_alike_of) (defScope s_alike_of) .none kV26 dc26 pm26 an26 cd26 ct26), (PySem.W.fnOf "kappa_of" "kappa_of" (defArgs s_kappa_of) (defBody s_kappa_of) (defScope s_kappa_of) .none kV27 dc27 pm27 an27 cd27 ct27), (PySem.W.fnOf "alike_between" "alike_between" (defArgs s_alike_between) (defBody s_alike_between) (defScope s_alike_between) .none kV28 dc28 pm28 an28 cd28 ct28), (PySem.W.fnOf "share_above_by" "share_above_by" (defArgs s_share_above_by) (defBody s_share_above_by) (defScope s_share_above_by) .none kV29 dc29 pm29 an29 cd29 ct29), (PySem.W.fnOf "share_above" "share_above" (defArgs s_share_above) (defBody s_share_above) (defScope s_share_above) .none kV30 dc30 pm30 an30 cd30 ct30), (PySem.W.fnOf "share_below" "share_below" (defArgs s_share_below) (defBody s_share_below) (defScope s_share_below) .none kV31 dc31 pm31 an31 cd31 ct31), (PySem.W.fnOf "share_apart" "share_apart" (defArgs s_share_apart) (defBody s_share_apart) (defScope s_share_apart) .none kV32 dc32 pm32 an32 cd32 ct32), (PySem.W.fnOf "needed" "needed" (defArgs s_needed) (defBody s_needed) (defScope s_needed) .none kV33 dc33 pm33 an33 cd33 ct33), (PySem.W.fnOf "_law_pot" "_law_pot" (defArgs s__law_pot) (defBody s__law_pot) (defScope s__law_pot) .none kV34 dc34 pm34 an34 cd34 ct34), (PySem.W.fnOf "_law_take" "_law_take" (defArgs s__law_take) (defBody s__law_take) (defScope s__law_take) .none kV35 dc35 pm35 an35 cd35 ct35), (PySem.W.fnOf "_law_cells" "_law_cells" (defArgs s__law_cells) (defBody s__law_cells) (defScope s__law_cells) .none kV36 dc36 pm36 an36 cd36 ct36), (PySem.W.fnOf "_law_part" "_law_part" (defArgs s__law_part) (defBody s__law_part) (defScope s__law_part) .none kV37 dc37 pm37 an37 cd37 ct37), (PySem.W.fnOf "_law_plus" "_law_plus" (defArgs s__law_plus) (defBody s__law_plus) (defScope s__law_plus) .none kV38 dc38 pm38 an38 cd38 ct38), (PySem.W.fnOf "_law_sum" "_law_sum" (defArgs s__law_sum) (defBody s__law_sum) (defScope s__law_sum) .none kV39 dc39 pm39 an39 cd39 ct39), (PySem.W.fnOf "_law_less" "_law_less" (defArgs s__law_less) (defBody s__law_less) (defScope s__law_less) .none kV40 dc40 pm40 an40 cd40 ct40), (PySem.W.fnOf "_law_choose" "_law_choose" (defArgs s__law_choose) (defBody s__law_choose) (defScope s__law_choose) .none kV41 dc41 pm41 an41 cd41 ct41), (PySem.W.fnOf "_law_lots" "_law_lots" (defArgs s__law_lots) (defBody s__law_lots) (defScope s__law_lots) .none kV42 dc42 pm42 an42 cd42 ct42), (PySem.W.fnOf "_law_kappa" "_law_kappa" (defArgs s__law_kappa) (defBody s__law_kappa) (defScope s__law_kappa) .none kV43 dc43 pm43 an43 cd43 ct43), (PySem.W.fnOf "_law_is_share_fair" "_law_is_share_fair" (defArgs s__law_is_share_fair) (defBody s__law_is_share_fair) (defScope s__law_is_share_fair) .none kV44 dc44 pm44 an44 cd44 ct44), (PySem.W.fnOf "_law_are_ways_right" "_law_are_ways_right" (defArgs s__law_are_ways_right) (defBody s__law_are_ways_right) (defScope s__law_are_ways_right) .none kV45 dc45 pm45 an45 cd45 ct45), (PySem.W.fnOf "_law_is_great_right" "_law_is_great_right" (defArgs s__law_is_great_right) (defBody s__law_is_great_right) (defScope s__law_is_great_right) .none kV46 dc46 pm46 an46 cd46 ct46), (PySem.W.fnOf "law" "law" (defArgs s_law) (defBody s_law) (defScope s_law) .none kV47 dc47 pm47 an47 cd47 ct47)].getD i (PySem.W.fnOf "is_integer" "is_integer" (defArgs s_is_integer) (defBody s_is_integer) (defScope s_is_integer) .none kV0 dc0 pm0 an0 cd0 ct0)) := {
    f_is_integer := fun_mk (st := s_is_integer) l0 c0 k0, g_is_integer := PySem.W.mg_of X G a0, b_is_integer := (fun_mk (st := s_is_integer) l0 c0 k0).binds (ps := ["value"]) fun _ _ _ _ _ _ us hl => match us, hl with | [_], _ => rfl
    f_is_between := fun_mk (st := s_is_between) l1 c1 k1, g_is_between := PySem.W.mg_of X G a1, b_is_between := (fun_mk (st := s_is_between) l1 c1 k1).binds (ps := ["value", "low", "high"]) fun _ _ _ _ _ _ us hl => match us, hl with | [_, _, _], _ => rfl
    f_are_between := fun_mk (st := s_are_between) l2 c2 k2, g_are_between := PySem.W.mg_of X G a2, b_are_between := (fun_mk (st := s_are_between) l2 c2 k2).binds (ps := ["value", "low", "high"]) fun _ _ _ _ _ _ us hl => match us, hl with | [_, _, _], _ => rfl
    f_is_tuple_of := fun_mk (st := s_is_tuple_of) l3 c3 k3, g_is_tuple_of := PySem.W.mg_of X G a3, b_is_tuple_of := (fun_mk (st := s_is_tuple_of) l3 c3 k3).binds (ps := ["value", "many"]) fun _ _ _ _ _ _ us hl => match us, hl with | [_, _], _ => rfl
    f_common := fun_mk (st := s_common) l4 c4 k4, g_common := PySem.W.mg_of X G a4, b_common := (fun_mk (st := s_common) l4 c4 k4).binds (ps := ["one", "other"]) fun _ _ _ _ _ _ us hl => match us, hl with | [_, _], _ => rfl
    f_part := fun_mk (st := s_part) l5 c5 k5, g_part := PySem.W.mg_of X G a5, b_part := (fun_mk (st := s_part) l5 c5 k5).binds (ps := ["top", "low"]) fun _ _ _ _ _ _ us hl => match us, hl with | [_, _], _ => rfl
    f_is_fraction := fun_mk (st := s_is_fraction) l6 c6 k6, g_is_fraction := PySem.W.mg_of X G a6, b_is_fraction := (fun_mk (st := s_is_fraction) l6 c6 k6).binds (ps := ["value"]) fun _ _ _ _ _ _ us hl => match us, hl with | [_], _ => rfl
    f_minus := fun_mk (st := s_minus) l7 c7 k7, g_minus := PySem.W.mg_of X G a7, b_minus := (fun_mk (st := s_minus) l7 c7 k7).binds (ps := ["one", "other"]) fun _ _ _ _ _ _ us hl => match us, hl with | [_, _], _ => rfl
    f_through := fun_mk (st := s_through) l8 c8 k8, g_through := PySem.W.mg_of X G a8, b_through := (fun_mk (st := s_through) l8 c8 k8).binds (ps := ["one", "other"]) fun _ _ _ _ _ _ us hl => match us, hl with | [_, _], _ => rfl
    f_is_less := fun_mk (st := s_is_less) l9 c9 k9, g_is_less := PySem.W.mg_of X G a9, b_is_less := (fun_mk (st := s_is_less) l9 c9 k9).binds (ps := ["one", "other"]) fun _ _ _ _ _ _ us hl => match us, hl with | [_, _], _ => rfl
    f_choose := fun_mk (st := s_choose) l10 c10 k10, g_choose := PySem.W.mg_of X G a10, b_choose := (fun_mk (st := s_choose) l10 c10 k10).binds (ps := ["many", "some"]) fun _ _ _ _ _ _ us hl => match us, hl with | [_, _], _ => rfl
    f_is_table_of := fun_mk (st := s_is_table_of) l11 c11 k11, g_is_table_of := PySem.W.mg_of X G a11, b_is_table_of := (fun_mk (st := s_is_table_of) l11 c11 k11).binds (ps := ["value"]) fun _ _ _ _ _ _ us hl => match us, hl with | [_], _ => rfl
    f_is_table := fun_mk (st := s_is_table) l12 c12 k12, g_is_table := PySem.W.mg_of X G a12, b_is_table := (fun_mk (st := s_is_table) l12 c12 k12).binds (ps := ["value"]) fun _ _ _ _ _ _ us hl => match us, hl with | [_], _ => rfl
    f_are_margins_of := fun_mk (st := s_are_margins_of) l13 c13 k13, g_are_margins_of := PySem.W.mg_of X G a13, b_are_margins_of := (fun_mk (st := s_are_margins_of) l13 c13 k13).binds (ps := ["value"]) fun _ _ _ _ _ _ us hl => match us, hl with | [_], _ => rfl
    f_are_margins := fun_mk (st := s_are_margins) l14 c14 k14, g_are_margins := PySem.W.mg_of X G a14, b_are_margins := (fun_mk (st := s_are_margins) l14 c14 k14).binds (ps := ["value"]) fun _ _ _ _ _ _ us hl => match us, hl with | [_], _ => rfl
    f_check_table := fun_mk (st := s_check_table) l15 c15 k15, g_check_table := PySem.W.mg_of X G a15, b_check_table := (fun_mk (st := s_check_table) l15 c15 k15).binds (ps := ["table"]) fun _ _ _ _ _ _ us hl => match us, hl with | [_], _ => rfl
    f_check_margins := fun_mk (st := s_check_margins) l16 c16 k16, g_check_margins := PySem.W.mg_of X G a16, b_check_margins := (fun_mk (st := s_check_margins) l16 c16 k16).binds (ps := ["margins"]) fun _ _ _ _ _ _ us hl => match us, hl with | [_], _ => rfl
    f_margins_by := fun_mk (st := s_margins_by) l17 c17 k17, g_margins_by := PySem.W.mg_of X G a17, b_margins_by := (fun_mk (st := s_margins_by) l17 c17 k17).binds (ps := ["table"]) fun _ _ _ _ _ _ us hl => match us, hl with | [_], _ => rfl
    f_margins_of := fun_mk (st := s_margins_of) l18 c18 k18, g_margins_of := PySem.W.mg_of X G a18, b_margins_of := (fun_mk (st := s_margins_of) l18 c18 k18).binds (ps := ["table"]) fun _ _ _ _ _ _ us hl => match us, hl with | [_], _ => rfl
    f_tables_by := fun_mk (st := s_tables_by) l19 c19 k19, g_tables_by := PySem.W.mg_of X G a19, b_tables_by := (fun_mk (st := s_tables_by) l19 c19 k19).binds (ps := ["margins"]) fun _ _ _ _ _ _ us hl => match us, hl with | [_], _ => rfl
    f_tables_of := fun_mk (st := s_tables_of) l20 c20 k20, g_tables_of := PySem.W.mg_of X G a20, b_tables_of := (fun_mk (st := s_tables_of) l20 c20 k20).binds (ps := ["margins"]) fun _ _ _ _ _ _ us hl => match us, hl with | [_], _ => rfl
    f_ways_by := fun_mk (st := s_ways_by) l21 c21 k21, g_ways_by := PySem.W.mg_of X G a21, b_ways_by := (fun_mk (st := s_ways_by) l21 c21 k21).binds (ps := ["table"]) fun _ _ _ _ _ _ us hl => match us, hl with | [_], _ => rfl
    f_ways_of := fun_mk (st := s_ways_of) l22 c22 k22, g_ways_of := PySem.W.mg_of X G a22, b_ways_of := (fun_mk (st := s_ways_of) l22 c22 k22).binds (ps := ["table"]) fun _ _ _ _ _ _ us hl => match us, hl with | [_], _ => rfl
    f_part_of := fun_mk (st := s_part_of) l23 c23 k23, g_part_of := PySem.W.mg_of X G a23, b_part_of := (fun_mk (st := s_part_of) l23 c23 k23).binds (ps := ["table", "some"]) fun _ _ _ _ _ _ us hl => match us, hl with | [_, _], _ => rfl
    f_chance_of := fun_mk (st := s_chance_of) l24 c24 k24, g_chance_of := PySem.W.mg_of X G a24, b_chance_of := (fun_mk (st := s_chance_of) l24 c24 k24).binds (ps := ["table"]) fun _ _ _ _ _ _ us hl => match us, hl with | [_], _ => rfl
    f_alike_by := fun_mk (st := s_alike_by) l25 c25 k25, g_alike_by := PySem.W.mg_of X G a25, b_alike_by := (fun_mk (st := s_alike_by) l25 c25 k25).binds (ps := ["table"]) fun _ _ _ _ _ _ us hl => match us, hl with | [_], _ => rfl
    f_alike_of := fun_mk (st := s_alike_of) l26 c26 k26, g_alike_of := PySem.W.mg_of X G a26, b_alike_of := (fun_mk (st := s_alike_of) l26 c26 k26).binds (ps := ["table"]) fun _ _ _ _ _ _ us hl => match us, hl with | [_], _ => rfl
    f_kappa_of := fun_mk (st := s_kappa_of) l27 c27 k27, g_kappa_of := PySem.W.mg_of X G a27, b_kappa_of := (fun_mk (st := s_kappa_of) l27 c27 k27).binds (ps := ["table"]) fun _ _ _ _ _ _ us hl => match us, hl with | [_], _ => rfl
    f_alike_between := fun_mk (st := s_alike_between) l28 c28 k28, g_alike_between := PySem.W.mg_of X G a28, b_alike_between := (fun_mk (st := s_alike_between) l28 c28 k28).binds (ps := ["margins"]) fun _ _ _ _ _ _ us hl => match us, hl with | [_], _ => rfl
    f_share_above_by := fun_mk (st := s_share_above_by) l29 c29 k29, g_share_above_by := PySem.W.mg_of X G a29, b_share_above_by := (fun_mk (st := s_share_above_by) l29 c29 k29).binds (ps := ["table"]) fun _ _ _ _ _ _ us hl => match us, hl with | [_], _ => rfl
    f_share_above := fun_mk (st := s_share_above) l30 c30 k30, g_share_above := PySem.W.mg_of X G a30, b_share_above := (fun_mk (st := s_share_above) l30 c30 k30).binds (ps := ["table"]) fun _ _ _ _ _ _ us hl => match us, hl with | [_], _ => rfl
    f_share_below := fun_mk (st := s_share_below) l31 c31 k31, g_share_below := PySem.W.mg_of X G a31, b_share_below := (fun_mk (st := s_share_below) l31 c31 k31).binds (ps := ["table"]) fun _ _ _ _ _ _ us hl => match us, hl with | [_], _ => rfl
    f_share_apart := fun_mk (st := s_share_apart) l32 c32 k32, g_share_apart := PySem.W.mg_of X G a32, b_share_apart := (fun_mk (st := s_share_apart) l32 c32 k32).binds (ps := ["table"]) fun _ _ _ _ _ _ us hl => match us, hl with | [_], _ => rfl
    f_needed := fun_mk (st := s_needed) l33 c33 k33, g_needed := PySem.W.mg_of X G a33, b_needed := (fun_mk (st := s_needed) l33 c33 k33).binds (ps := ["margins", "level"]) fun _ _ _ _ _ _ us hl => match us, hl with | [_, _], _ => rfl
    f__law_pot := fun_mk (st := s__law_pot) l34 c34 k34, g__law_pot := PySem.W.mg_of X G a34, b__law_pot := (fun_mk (st := s__law_pot) l34 c34 k34).binds (ps := ["script", "place"]) fun _ _ _ _ _ _ us hl => match us, hl with | [_, _], _ => rfl
    f__law_take := fun_mk (st := s__law_take) l35 c35 k35, g__law_take := PySem.W.mg_of X G a35, b__law_take := (fun_mk (st := s__law_take) l35 c35 k35).binds (ps := ["pot", "upto"]) fun _ _ _ _ _ _ us hl => match us, hl with | [_, _], _ => rfl
    f__law_cells := fun_mk (st := s__law_cells) l36 c36 k36, g__law_cells := PySem.W.mg_of X G a36, b__law_cells := (fun_mk (st := s__law_cells) l36 c36 k36).binds (ps := ["script", "limit"]) fun _ _ _ _ _ _ us hl => match us, hl with | [_, _], _ => rfl
    f__law_part := fun_mk (st := s__law_part) l37 c37 k37, g__law_part := PySem.W.mg_of X G a37, b__law_part := (fun_mk (st := s__law_part) l37 c37 k37).binds (ps := ["top", "low"]) fun _ _ _ _ _ _ us hl => match us, hl with | [_, _], _ => rfl
    f__law_plus := fun_mk (st := s__law_plus) l38 c38 k38, g__law_plus := PySem.W.mg_of X G a38, b__law_plus := (fun_mk (st := s__law_plus) l38 c38 k38).binds (ps := ["one", "other"]) fun _ _ _ _ _ _ us hl => match us, hl with | [_, _], _ => rfl
    f__law_sum := fun_mk (st := s__law_sum) l39 c39 k39, g__law_sum := PySem.W.mg_of X G a39, b__law_sum := (fun_mk (st := s__law_sum) l39 c39 k39).binds (ps := ["some"]) fun _ _ _ _ _ _ us hl => match us, hl with | [_], _ => rfl
    f__law_less := fun_mk (st := s__law_less) l40 c40 k40, g__law_less := PySem.W.mg_of X G a40, b__law_less := (fun_mk (st := s__law_less) l40 c40 k40).binds (ps := ["one", "other"]) fun _ _ _ _ _ _ us hl => match us, hl with | [_, _], _ => rfl
    f__law_choose := fun_mk (st := s__law_choose) l41 c41 k41, g__law_choose := PySem.W.mg_of X G a41, b__law_choose := (fun_mk (st := s__law_choose) l41 c41 k41).binds (ps := ["many", "some"]) fun _ _ _ _ _ _ us hl => match us, hl with | [_, _], _ => rfl
    f__law_lots := fun_mk (st := s__law_lots) l42 c42 k42, g__law_lots := PySem.W.mg_of X G a42, b__law_lots := (fun_mk (st := s__law_lots) l42 c42 k42).binds (ps := ["many", "size"]) fun _ _ _ _ _ _ us hl => match us, hl with | [_, _], _ => rfl
    f__law_kappa := fun_mk (st := s__law_kappa) l43 c43 k43, g__law_kappa := PySem.W.mg_of X G a43, b__law_kappa := (fun_mk (st := s__law_kappa) l43 c43 k43).binds (ps := ["table"]) fun _ _ _ _ _ _ us hl => match us, hl with | [_], _ => rfl
    f__law_is_share_fair := fun_mk (st := s__law_is_share_fair) l44 c44 k44, g__law_is_share_fair := PySem.W.mg_of X G a44, b__law_is_share_fair := (fun_mk (st := s__law_is_share_fair) l44 c44 k44).binds (ps := ["ways", "shares"]) fun _ _ _ _ _ _ us hl => match us, hl with | [_, _], _ => rfl
    f__law_are_ways_right := fun_mk (st := s__law_are_ways_right) l45 c45 k45, g__law_are_ways_right := PySem.W.mg_of X G a45, b__law_are_ways_right := (fun_mk (st := s__law_are_ways_right) l45 c45 k45).binds (ps := ["pot"]) fun _ _ _ _ _ _ us hl => match us, hl with | [_], _ => rfl
    f__law_is_great_right := fun_mk (st := s__law_is_great_right) l46 c46 k46, g__law_is_great_right := PySem.W.mg_of X G a46, b__law_is_great_right := (fun_mk (st := s__law_is_great_right) l46 c46 k46).binds (ps := ["pot"]) fun _ _ _ _ _ _ us hl => match us, hl with | [_], _ => rfl
    f_law := fun_mk (st := s_law) l47 c47 k47, g_law := PySem.W.mg_of X G a47, b_law := (fun_mk (st := s_law) l47 c47 k47).binds (ps := ["script"]) fun _ _ _ _ _ _ us hl => match us, hl with | [_], _ => rfl
    z_abs := PySem.W.mg_none_of X G z_abs
    z_all := PySem.W.mg_none_of X G z_all
    z_bool := PySem.W.mg_none_of X G z_bool
    z_int := PySem.W.mg_none_of X G z_int
    z_isinstance := PySem.W.mg_none_of X G z_isinstance
    z_len := PySem.W.mg_none_of X G z_len
    z_list := PySem.W.mg_none_of X G z_list
    z_max := PySem.W.mg_none_of X G z_max
    z_min := PySem.W.mg_none_of X G z_min
    z_range := PySem.W.mg_none_of X G z_range
    z_repr := PySem.W.mg_none_of X G z_repr
    z_set := PySem.W.mg_none_of X G z_set
    z_sorted := PySem.W.mg_none_of X G z_sorted
    z_sum := PySem.W.mg_none_of X G z_sum
    z_tuple := PySem.W.mg_none_of X G z_tuple
    z_zip := PySem.W.mg_none_of X G z_zip
    g_MOST_THINGS := ⟨_, PySem.W.mg_of X G g_MOST_THINGS, r_MOST_THINGS⟩
  }
  have e := hfa.symm.trans (PySem.W.mg_of X G a47)
  cases e
  exact ⟨_, fun s v => .of_eq rfl, fun base _ _ => ok_law T⟩
end MP.K69

set_option Elab.async false
set_option linter.all false
set_option maxRecDepth 100000
set_option maxHeartbeats 4000000
set_option exponentiation.threshold 100000
/-! P69a: what the defs of k69 reckon. Own work. -/
namespace MP.K69
open PySem MP
@[simp] theorem isa_int (i : Int) : gIsa "int" (.int i) = some (.bool true) := by simp [gIsa, okD]; rfl
@[simp] theorem isa_bool (i : Int) : gIsa "bool" (.int i) = some (.bool false) := by simp [gIsa, okD]; rfl
theorem isa_tup {ds : List D} (h : okD 40 (.tuple ds) = true) : gIsa "tuple" (.tuple ds) = some (.bool true) := by simp [gIsa, h]; rfl
@[simp] theorem bLen_tup (ds : List D) : bLen [.tuple ds] = some (.int ds.length) := rfl
@[simp] theorem bLen_lst (ds : List D) : bLen [.list ds] = some (.int ds.length) := rfl
theorem ok_ints (l : List Int) : okD 40 (.tuple (l.map PyData.int)) = true := by
  simp [okD]
theorem ev_is_integer (i : Int) (st : Store) : m_is_integer [.int i] st = .ok (.bool true) st := by
  simp [m_is_integer, fnM, startL, retS, andE, una, var, valT, notT, tru]
theorem ev_is_between (x lo hi : Int) (st : Store) : m_is_between [.int x, .int lo, .int hi] st = .ok (.bool (decide (lo ≤ x) && decide (x ≤ hi))) st := by
  by_cases h : lo ≤ x <;> by_cases h2 : x ≤ hi <;> simp [m_is_between, fnM, startL, retS, andE, app, consA, nilA, ev_is_integer, var, valT, chn, chainT, gCmp, h, h2]
theorem ev_are_between (l : List Int) (hl : l.length ≤ 1000) (lo hi : Int) (st : Store) : m_are_between [.tuple (l.map PyData.int), .int lo, .int hi] st = .ok (.bool (l.all fun x => decide (lo ≤ x) && decide (x ≤ hi))) st := by
  have hlc := lc_all (vs := [3]) (i := 3) (it := iterS (var 0)) (e := app m_is_between (consA (var 3) (consA (var 1) (consA (var 2) nilA)))) (ls := [some (.tuple (l.map PyData.int)), some (.int lo), some (.int hi), none]) (st := st) (st1 := st) l PyData.int (fun x => PyData.bool (decide (lo ≤ x) && decide (x ≤ hi)))
    (by simp [iterS, var]) (by omega) fun x _ => by simp [wipeL, app, consA, nilA, var, ev_is_between]
  have ha : bAll [.list (l.map fun x => PyData.bool (decide (lo ≤ x) && decide (x ≤ hi)))] = some (.bool (l.all fun x => decide (lo ≤ x) && decide (x ≤ hi))) := by
    have e : (l.map fun x => PyData.bool (decide (lo ≤ x) && decide (x ≤ hi))) = (l.map fun x => decide (lo ≤ x) && decide (x ≤ hi)).map PyData.bool := by rw [List.map_map]; rfl
    rw [e]
    show (asBools _).map _ = _
    rw [asBools_map, Option.map_some, List.all_map]; rfl
  simp [m_are_between, fnM, startL, retS, andE, una, var, isa_tup (ok_ints l), blt, consA, nilA, hlc, ha]
theorem ev_is_tuple_of (ds : List D) (h : okD 40 (.tuple ds) = true) (n : Int) (st : Store) : m_is_tuple_of [.tuple ds, .int n] st = .ok (.bool ((ds.length : Int) == n)) st := by
  simp [m_is_tuple_of, fnM, startL, retS, andE, una, var, isa_tup h, blt, consA, nilA, bin]
/-- a table -/
structure Q4 where
  a : Nat
  b : Nat
  c : Nat
  d : Nat
deriving DecidableEq
namespace Q4
def zs (t : Q4) : List Int := [t.a, t.b, t.c, t.d]
def D (t : Q4) : MP.D := .tuple (t.zs.map PyData.int)
def n (t : Q4) : Nat := t.a + t.b + t.c + t.d
def f (t : Q4) : Nat := t.a + t.b
def s (t : Q4) : Nat := t.a + t.c
def ways (t : Q4) : Nat := ch (t.a + t.b) t.a * ch (t.c + t.d) t.c
def ok (t : Q4) : Prop := 1 ≤ t.n ∧ t.n ≤ 60
end Q4
theorem ok_D (t : Q4) : okD 40 t.D = true := ok_ints _
theorem rd_D (t : Q4) (st : Store) : rd st t.D = t.D := rfl
theorem D_eq (t : Q4) : t.D = .tuple [.int t.a, .int t.b, .int t.c, .int t.d] := rfl
theorem sum_D (t : Q4) : bSum [t.D] = some (.int (t.n : Nat)) := by
  have e : bSum [t.D] = (asInts (t.zs.map PyData.int)).map fun l => PyData.int l.sum := rfl
  rw [e, asInts_map]
  simp [Q4.zs, Q4.n, List.sum_cons]
  omega
theorem ev_is_table_of {t : Q4} (h : t.ok) (st : Store) : m_is_table_of [t.D] st = .ok (.bool true) st := by
  obtain ⟨h1, h2⟩ := h
  have n1 : t.a ≤ 60 ∧ t.b ≤ 60 ∧ t.c ≤ 60 ∧ t.d ≤ 60 := by unfold Q4.n at h2; omega
  have e1 := ev_is_tuple_of (t.zs.map PyData.int) (ok_ints _) 4 st
  have e2 := ev_are_between t.zs (by simp [Q4.zs]) 0 60 st
  have e3 : (t.zs.all fun x => decide (0 ≤ x) && decide (x ≤ 60)) = true := by
    simp [Q4.zs]; omega
  rw [e3] at e2
  have e4 : (((t.zs.map PyData.int).length : Int) == 4) = true := rfl
  rw [e4] at e1
  have e1' : m_is_tuple_of [t.D, .int 4] st = .ok (.bool true) st := e1
  have e2' : m_are_between [t.D, .int 0, .int 60] st = .ok (.bool true) st := e2
  have l1 : (1 : Int) ≤ (t.n : Nat) := by omega
  have l2 : ((t.n : Nat) : Int) ≤ 60 := by omega
  simp [m_is_table_of, fnM, startL, retS, andE, app, consA, nilA, var, cst, e1', e2', valT, chn, chainT, blt, rd_D, sum_D, gCmp, l1, l2]
theorem ev_check_table {t : Q4} (h : t.ok) (st : Store) : m_check_table [t.D] st = .ok .none st := by
  simp [m_check_table, fnM, startL, iff, notT, tru, app, consA, nilA, var, ev_is_table_of h, skp]
theorem ev_margins_by (t : Q4) (st : Store) : m_margins_by [t.D] st = .ok (.tuple [.int (t.n : Nat), .int (t.f : Nat), .int (t.s : Nat)]) st := by
  have o : okD 40 (.tuple [.int (t.n : Nat), .int (t.f : Nat), .int (t.s : Nat)]) = true := by simp [okD]
  have e1 : (t.a : Int) + (t.b : Int) = ((t.f : Nat) : Int) := by simp [Q4.f]
  have e2 : (t.a : Int) + (t.c : Int) = ((t.s : Nat) : Int) := by simp [Q4.s]
  have s1 := sum_D t
  rw [D_eq] at s1 ⊢
  simp [m_margins_by, fnM, startL, retS, tupE, consA, nilA, var, cst, blt, bin, s1, e1, e2, retD_tup o]
/-! ### tables of given margins -/
def tb (n f s b : Nat) : Q4 := ⟨b, f - b, s - b, n + b - f - s⟩
def bs (n f s : Nat) : List Nat := List.range' (f + s - n) (min f s + 1 - (f + s - n))
theorem mem_bs {n f s b : Nat} : b ∈ bs n f s ↔ f + s ≤ n + b ∧ b ≤ f ∧ b ≤ s := by
  unfold bs
  rw [List.mem_range'_1]
  omega
theorem tb_n {n f s b : Nat} (h : b ∈ bs n f s) : (tb n f s b).n = n ∧ (tb n f s b).f = f ∧ (tb n f s b).s = s := by
  rw [mem_bs] at h
  unfold tb Q4.n Q4.f Q4.s
  simp only
  omega
theorem ok_tabs {α : Type} (xs : List α) (g : α → Q4) : okD 40 (.tuple (xs.map fun x => (g x).D)) = true := by
  simp [okD, Q4.D]
theorem ok_tabsL {α : Type} (xs : List α) (g : α → Q4) : okD 40 (.list (xs.map fun x => (g x).D)) = true := by
  simp [okD, Q4.D]
theorem max_lo {n f s : Nat} : bMax [.int 0, .int ((f : Int) + (s : Int) - (n : Int))] = some (.int ((f + s - n : Nat) : Int)) := by
  show some (PyData.int _) = _
  congr 2
  split <;> omega
theorem min_hi {f s : Nat} : bMin [.int (f : Int), .int (s : Int)] = some (.int ((min f s : Nat) : Int)) := by
  show some (PyData.int _) = _
  congr 2
  split <;> omega
abbrev lsT (n f s : Nat) : Ls := [some (.tuple [.int n, .int f, .int s]), some (.int n), some (.int f), some (.int s), some (.int ((f + s - n : Nat) : Int)), some (.int ((min f s : Nat) : Int)), none]
theorem it_bs {n f s : Nat} (hf : f ≤ n) (hs : s ≤ n) (hn : n ≤ 60) (st : Store) : iterR2 (consA (var 4) (consA (bin gAdd (var 5) (cst (.int 1))) nilA)) (lsT n f s) st = .ok ((bs n f s).map fun b => PyData.int (b : Nat)) st := by
  have c : ((((min f s : Nat) : Int) + 1) ≤ 16777216 ∧ -16777216 ≤ (((min f s : Nat) : Int) + 1) ∧ ((f + s - n : Nat) : Int) ≤ 16777216 ∧ -16777216 ≤ ((f + s - n : Nat) : Int)) := ⟨by omega, by omega, by omega, by omega⟩
  have e := rng_from (f + s - n) (min f s + 1)
  rw [Int.natCast_add] at e
  have e' : rng ((f + s - n : Nat) : Int) (((min f s : Nat) : Int) + 1) = (bs n f s).map fun b => PyData.int (b : Nat) := e
  unfold iterR2
  rw [run_cons (d := .int ((f + s - n : Nat) : Int)) run_var (run_one (run_bin (x := .int ((min f s : Nat) : Int)) run_var run_cst rfl)), bind_run]
  exact (if_pos c).trans (congrArg (fun z => Res.ok z st) e')
theorem lc_bs {n f s : Nat} (hf : f ≤ n) (hs : s ≤ n) (hn : n ≤ 60) (st : Store) : lc [6] (.nm 6) (iterR2 (consA (var 4) (consA (bin gAdd (var 5) (cst (.int 1))) nilA))) yesT (tupE (consA (var 6) (consA (bin gSub (var 2) (var 6)) (consA (bin gSub (var 3) (var 6)) (consA (bin gAdd (bin gSub (bin gSub (var 1) (var 2)) (var 3)) (var 6)) nilA))))) (lsT n f s) st
    = .ok (.list ((bs n f s).map fun b => (tb n f s b).D)) st :=
  lc_all (bs n f s) (fun b => PyData.int (b : Nat)) (fun b => (tb n f s b).D) (it_bs hf hs hn st) (by simp [bs]; omega) fun b hb => by
      rw [mem_bs] at hb
      have x1 : (f : Int) - (b : Int) = ((f - b : Nat) : Int) := by omega
      have x2 : (s : Int) - (b : Int) = ((s - b : Nat) : Int) := by omega
      have x3 : (n : Int) - (f : Int) - (s : Int) + (b : Int) = ((n + b - f - s : Nat) : Int) := by omega
      have y0 : ∀ z : Int, (PyData.int z) = PyData.int z := fun _ => rfl
      refine run_tup (ds := [.int (b : Nat), .int (f - b : Nat), .int (s - b : Nat), .int (n + b - f - s : Nat)]) (run_cons run_var (run_cons (run_bin (x := .int f) (y := .int b) run_var run_var (congrArg (fun z => some (PyData.int z)) x1))
        (run_cons (run_bin (x := .int s) (y := .int b) run_var run_var (congrArg (fun z => some (PyData.int z)) x2)) (run_one (run_bin (x := .int ((n : Int) - f - s)) (y := .int b) (run_bin (x := .int ((n : Int) - f)) (y := .int s) (run_bin (x := .int n) (y := .int f) run_var run_var rfl) run_var rfl) run_var (congrArg (fun z => some (PyData.int z)) x3))))))
theorem ev_tables_by {n f s : Nat} (hf : f ≤ n) (hs : s ≤ n) (hn : n ≤ 60) (st : Store) : m_tables_by [.tuple [.int n, .int f, .int s]] st = .ok (.tuple ((bs n f s).map fun b => (tb n f s b).D)) st := by
  have o := ok_tabs (bs n f s) (tb n f s)
  refine run_fn (run_sq (ls1 := [some (.tuple [.int n, .int f, .int s]), some (.int n), some (.int f), some (.int s), none, none, none]) (run_asgT run_var rfl)
    (run_sq (ls1 := [some (.tuple [.int n, .int f, .int s]), some (.int n), some (.int f), some (.int s), some (.int ((f + s - n : Nat) : Int)), some (.int ((min f s : Nat) : Int)), none]) (run_par2 (run_cons (run_blt (ds := [.int 0, .int ((f : Int) + s - n)]) (run_cons run_cst (run_one (run_bin (run_bin run_var run_var rfl) run_var rfl))) max_lo) (run_one (run_blt (ds := [.int f, .int s]) (run_cons run_var (run_one run_var)) min_hi))))
    (run_ret (run_blt (run_one (lc_bs hf hs hn st)) rfl)))) o
end MP.K69

set_option Elab.async false
set_option linter.all false
set_option maxRecDepth 100000
set_option maxHeartbeats 4000000
set_option exponentiation.threshold 100000
/-! P69b: shares, agreement, kappa. Own work. -/
namespace MP.K69
open PySem MP
theorem hgcd : IsGcd m_common := isGcd
theorem hpart : IsPart m_part := isPart hgcd
theorem hminus : IsQ2 (· - ·) m_minus := isMinus hpart
theorem hthrough : IsQDiv m_through := isThrough hpart
theorem hless : IsQLess m_is_less := isLess
theorem hch : IsCh m_choose := isCh
theorem lpart : IsPart m__law_part := isPart2
theorem lplus : IsQ2 (· + ·) m__law_plus := isPlus lpart
theorem lless : IsQLess m__law_less := isLess
theorem lch : IsCh m__law_choose := isCh2
theorem ev_ways_by {t : Q4} (h : t.n ≤ 60) (st : Store) : m_ways_by [t.D] st = .ok (.int (t.ways : Nat)) st := by
  unfold Q4.n at h
  have c1 := hch (t.a + t.b) t.a st (by omega) (by omega)
  have c2 := hch (t.c + t.d) t.c st (by omega) (by omega)
  have l1 := ch_le (t.a + t.b) t.a
  have l2 := ch_le (t.c + t.d) t.c
  have p1 : 2 ^ (t.a + t.b) ≤ 2 ^ 60 := Nat.pow_le_pow_right (by decide) (by omega)
  have p2 : 2 ^ (t.c + t.d) ≤ 2 ^ 60 := Nat.pow_le_pow_right (by decide) (by omega)
  have m1 : gMul (.int (ch (t.a + t.b) t.a : Nat)) (.int (ch (t.c + t.d) t.c : Nat)) = some (.int (t.ways : Nat)) := by
    rw [gMul_int (small (n := 61) (by rw [Int.natAbs_natCast]; omega) (by decide)) (small (n := 61) (by rw [Int.natAbs_natCast]; omega) (by decide))]
    rw [Q4.ways, Int.natCast_mul]
  have i0 : bin gIdx (var 0) (cst (.int 0)) [some t.D] st = .ok (.int t.a) st := rfl
  have i1 : bin gIdx (var 0) (cst (.int 1)) [some t.D] st = .ok (.int t.b) st := rfl
  have i2 : bin gIdx (var 0) (cst (.int 2)) [some t.D] st = .ok (.int t.c) st := rfl
  have i3 : bin gIdx (var 0) (cst (.int 3)) [some t.D] st = .ok (.int t.d) st := rfl
  exact run_fn (run_ret (run_bin (x := .int (ch (t.a + t.b) t.a : Nat)) (y := .int (ch (t.c + t.d) t.c : Nat)) (run_app (run_cons (run_bin (x := .int t.a) (y := .int t.b) i0 i1 rfl) (run_one i0)) c1) (run_app (run_cons (run_bin (x := .int t.c) (y := .int t.d) i2 i3 rfl) (run_one i2)) c2) m1)) (okD_int _)
def sumW (xs : List Q4) : Nat := (xs.map Q4.ways).sum
/-- the ways of some tables to all ways -/
def wr (xs : List Q4) (t : Q4) : Rat := Rat.divInt (sumW xs : Nat) (ch t.n t.s : Nat)
theorem ch_ne {t : Q4} : ((ch t.n t.s : Nat) : Int) ≠ 0 ∧ (t.n ≤ 60 → ((ch t.n t.s : Nat) : Int).natAbs < 2 ^ 4900) := by
  have h := ch_pos t.n t.s (by unfold Q4.n Q4.s; omega)
  refine ⟨by omega, fun hn => ?_⟩
  have l := ch_le t.n t.s
  have p : 2 ^ t.n ≤ 2 ^ 60 := Nat.pow_le_pow_right (by decide) hn
  rw [Int.natAbs_natCast]
  exact Nat.lt_of_le_of_lt (Nat.le_trans l p) (Nat.pow_lt_pow_right (by decide) (by decide))
theorem ev_part_of {t : Q4} (ht : t.n ≤ 60) (xs : List Q4) (hx : ∀ x ∈ xs, x.n ≤ 60) (hl : xs.length ≤ 1000) (st : Store) : m_part_of [t.D, .list (xs.map Q4.D)] st = .ok (frac (wr xs t)) st := by
  have hlc := lc_all (vs := [5]) (i := 5) (it := iterS (var 1)) (e := app m_ways_by (consA (var 5) nilA)) (ls := [some t.D, some (.list (xs.map Q4.D)), some (.int t.n), some (.int t.f), some (.int t.s), none]) (st := st) (st1 := st) xs Q4.D (fun x => PyData.int (x.ways : Nat))
    (run_iterS run_var) (by omega) fun x hx' => run_app (run_one run_var) (ev_ways_by (hx x hx') st)
  have sm : bSum [.list (xs.map fun x => PyData.int (x.ways : Nat))] = some (.int (sumW xs : Nat)) := by
    have e : (xs.map fun x => PyData.int ((x.ways : Nat) : Int)) = (xs.map fun x => ((x.ways : Nat) : Int)).map PyData.int := by rw [List.map_map]; rfl
    have e2 : bSum [.list ((xs.map fun x => ((x.ways : Nat) : Int)).map PyData.int)] = (asInts ((xs.map fun x => ((x.ways : Nat) : Int)).map PyData.int)).map fun l => PyData.int l.sum := rfl
    rw [e, e2, asInts_map, Option.map_some]
    congr 2
    unfold sumW
    induction xs with
    | nil => rfl
    | cons x r ih =>
      rw [List.map_cons, List.sum_cons, List.map_cons, List.sum_cons, Int.natCast_add, ih (fun y hy => hx y (List.mem_cons_of_mem _ hy)) (by simp at hl; omega)]
      · exact lc_all (vs := [5]) (i := 5) r Q4.D (fun x => PyData.int (x.ways : Nat)) (run_iterS run_var) (by simp at hl; omega) fun x hx' => run_app (run_one run_var) (ev_ways_by (hx x (List.mem_cons_of_mem _ hx')) st)
      · rw [List.map_map]; rfl
      · rfl
  obtain ⟨n1, n2⟩ := ch_ne (t := t)
  have c1 := hch t.n t.s st (by unfold Q4.n Q4.s; omega) (by omega)
  refine run_fn (run_sq (ls1 := [some t.D, some (.list (xs.map Q4.D)), some (.int t.n), some (.int t.f), some (.int t.s), none]) (run_asgT (run_app (run_one run_var) (ev_margins_by t st)) rfl) (run_ret (run_app (ds := [.int (sumW xs : Nat), .int (ch t.n t.s : Nat)]) ?_ (hpart _ _ st n1 (n2 ht))))) (ok_frac _)
  exact run_cons (run_blt (run_one hlc) sm) (run_one (run_app (run_cons run_var (run_one run_var)) c1))
theorem ns_le (t : Q4) : t.f ≤ t.n ∧ t.s ≤ t.n := by unfold Q4.f Q4.s Q4.n; omega
theorem tabs_n {t : Q4} (h : t.n ≤ 60) (p : Nat → Bool) : ∀ x ∈ ((bs t.n t.f t.s).filter p).map (tb t.n t.f t.s), x.n ≤ 60 := fun x hx => by
  obtain ⟨b, hb, rfl⟩ := List.mem_map.mp hx
  rw [(tb_n (List.mem_filter.mp hb).1).1]; exact h
theorem bs_len (n f s : Nat) : (bs n f s).length ≤ min f s + 1 := by unfold bs; rw [List.length_range']; omega
theorem tabs_len {t : Q4} (h : t.n ≤ 60) (p : Nat → Bool) : (((bs t.n t.f t.s).filter p).map (tb t.n t.f t.s)).length ≤ 1000 := by
  rw [List.length_map]
  have := List.length_filter_le p (bs t.n t.f t.s)
  have l := bs_len t.n t.f t.s
  have := ns_le t
  omega
theorem run_check {t : Q4} (h : t.ok) {b : MS} {n : Nat} {st : Store} {d : D} (hb : b (startL n [t.D]) st = .ok (.rt d) st) (hn : (startL n [t.D])[0]? = some (some t.D)) (o : okD 40 d = true) : fnM false n (sq (drp (app m_check_table (consA (var 0) nilA))) b) [t.D] st = .ok d st :=
  run_fn (run_sq (run_drp (run_app (run_one (run_var hn)) (ev_check_table h st))) hb) o
theorem run_rtE {e : ME} {ls : Ls} {st : Store} {d : D} (h : e ls st = .ok d st) : retS e ls st = .ok (.rt d) st := run_ret h
theorem ev_ways_of {t : Q4} (h : t.ok) (st : Store) : m_ways_of [t.D] st = .ok (.int (t.ways : Nat)) st :=
  run_check h (run_ret (run_app (run_one run_var) (ev_ways_by h.2 st))) rfl (okD_int _)
theorem ev_margins_of {t : Q4} (h : t.ok) (st : Store) : m_margins_of [t.D] st = .ok (.tuple [.int (t.n : Nat), .int (t.f : Nat), .int (t.s : Nat)]) st :=
  run_check h (run_ret (run_app (run_one run_var) (ev_margins_by t st))) rfl (by simp [okD])
theorem ev_chance_of {t : Q4} (h : t.ok) (st : Store) : m_chance_of [t.D] st = .ok (frac (wr [t] t)) st :=
  run_check h (run_ret (run_app (run_cons run_var (run_one (run_lst (run_one run_var)))) (ev_part_of h.2 [t] (fun x hx => by rw [List.mem_singleton.mp hx]; exact h.2) (by simp) st))) rfl (ok_frac _)
/-- the tables of t's margins that pass p -/
def sel (t : Q4) (p : Nat → Bool) : List Q4 := ((bs t.n t.f t.s).filter p).map (tb t.n t.f t.s)
theorem it_tabs {t : Q4} (h : t.n ≤ 60) {ls : Ls} (hv : ls[0]? = some (some t.D)) (st : Store) : iterS (app m_tables_by (consA (app m_margins_by (consA (var 0) nilA)) nilA)) ls st = .ok ((bs t.n t.f t.s).map fun b => (tb t.n t.f t.s b).D) st :=
  run_iterT (run_app (run_one (run_app (run_one (run_var hv)) (ev_margins_by t st))) (ev_tables_by (ns_le t).1 (ns_le t).2 h st))
theorem lc_sel {t : Q4} (h : t.n ≤ 60) {T : MT} {p : Nat → Bool} (st : Store) (hT : ∀ b ∈ bs t.n t.f t.s, T [some t.D, some (tb t.n t.f t.s b).D] st = .ok (p b) st) :
    lc [1] (.nm 1) (iterS (app m_tables_by (consA (app m_margins_by (consA (var 0) nilA)) nilA))) T (var 1) [some t.D, none] st = .ok (.list ((sel t p).map Q4.D)) st := by
  have := lc_run (vs := [1]) (i := 1) (it := iterS (app m_tables_by (consA (app m_margins_by (consA (var 0) nilA)) nilA))) (t := T) (e := var 1) (ls := [some t.D, none]) (st := st) (st1 := st) (bs t.n t.f t.s) (fun b => (tb t.n t.f t.s b).D) (fun b => (tb t.n t.f t.s b).D) p
    (it_tabs h rfl st) (by have := bs_len t.n t.f t.s; have := ns_le t; omega) fun b hb => ⟨hT b hb, fun _ => rfl⟩
  rw [this]
  unfold sel
  rw [List.map_map]; rfl
theorem ev_share_above_by {t : Q4} (h : t.n ≤ 60) (st : Store) : m_share_above_by [t.D] st = .ok (frac (wr (sel t fun b => decide (t.a ≤ b)) t)) st :=
  run_fn (run_ret (run_app (run_cons run_var (run_one (lc_sel h (p := fun b => decide (t.a ≤ b)) st fun b _ => run_tru (x := .bool (decide (t.a ≤ b))) (run_bin (x := .int (b : Nat)) (y := .int (t.a : Nat)) rfl rfl (by
    rw [rd_int, rd_int, gGe_int]; congr 2; exact decide_eq_decide.mpr Int.ofNat_le)) rfl))) (ev_part_of h _ (tabs_n h _) (tabs_len h _) st))) (ok_frac _)
theorem ev_share_above {t : Q4} (h : t.ok) (st : Store) : m_share_above [t.D] st = .ok (frac (wr (sel t fun b => decide (t.a ≤ b)) t)) st :=
  run_check h (run_ret (run_app (run_one run_var) (ev_share_above_by h.2 st))) rfl (ok_frac _)
theorem ev_share_below {t : Q4} (h : t.ok) (st : Store) : m_share_below [t.D] st = .ok (frac (wr (sel t fun b => decide (b ≤ t.a)) t)) st :=
  run_check h (run_ret (run_app (run_cons run_var (run_one (lc_sel h.2 (p := fun b => decide (b ≤ t.a)) st fun b _ => run_tru (x := .bool (decide (b ≤ t.a))) (run_bin (x := .int (b : Nat)) (y := .int (t.a : Nat)) rfl rfl (by
    rw [rd_int, rd_int, gLe_int]; congr 2; exact decide_eq_decide.mpr Int.ofNat_le)) rfl))) (ev_part_of h.2 _ (tabs_n h.2 _) (tabs_len h.2 _) st))) rfl (ok_frac _)
theorem ev_share_apart {t : Q4} (h : t.ok) (st : Store) : m_share_apart [t.D] st = .ok (frac (wr (sel t fun b => decide ((tb t.n t.f t.s b).ways ≤ t.ways)) t)) st :=
  run_check h (run_ret (run_app (run_cons run_var (run_one (lc_sel h.2 (p := fun b => decide ((tb t.n t.f t.s b).ways ≤ t.ways)) st fun b hb => run_tru (x := .bool (decide ((tb t.n t.f t.s b).ways ≤ t.ways))) (run_bin (x := .int ((tb t.n t.f t.s b).ways : Nat)) (y := .int (t.ways : Nat)) (run_app (run_one run_var) (ev_ways_by (by rw [(tb_n hb).1]; exact h.2) st)) (run_app (run_one run_var) (ev_ways_by h.2 st)) (by
    rw [rd_int, rd_int, gLe_int]; congr 2; exact decide_eq_decide.mpr Int.ofNat_le)) rfl))) (ev_part_of h.2 _ (tabs_n h.2 _) (tabs_len h.2 _) st))) rfl (ok_frac _)
/-! ### agreement -/
def al (t : Q4) : Rat := Rat.divInt ((t.a + t.d : Nat) : Int) (t.n : Nat)
theorem ev_alike_by {t : Q4} (h : t.ok) (st : Store) : m_alike_by [t.D] st = .ok (frac (al t)) st := by
  have i0 : bin gIdx (var 0) (cst (.int 0)) [some t.D] st = .ok (.int t.a) st := rfl
  have i3 : bin gIdx (var 0) (cst (.int 3)) [some t.D] st = .ok (.int t.d) st := rfl
  obtain ⟨h1, h2⟩ := h
  exact run_fn (run_ret (run_app (ds := [.int ((t.a + t.d : Nat) : Int), .int (t.n : Nat)]) (run_cons (run_bin (x := .int t.a) (y := .int t.d) i0 i3 (by rw [rd_int, rd_int, gAdd_int, Int.natCast_add])) (run_one (run_blt (ds := [t.D]) (run_one run_var) (sum_D t))))
    (hpart _ _ st (by omega) (by rw [Int.natAbs_natCast]; exact Nat.lt_of_le_of_lt h2 (Nat.lt_of_lt_of_le (show 60 < 2 ^ 6 by decide) (Nat.pow_le_pow_right (by decide) (by decide))))))) (ok_frac _)
theorem ev_alike_of {t : Q4} (h : t.ok) (st : Store) : m_alike_of [t.D] st = .ok (frac (al t)) st :=
  run_check h (run_ret (run_app (run_one run_var) (ev_alike_by h st))) rfl (ok_frac _)
def km (t : Q4) : Int := (t.f : Int) * t.s + ((t.n : Int) - t.f) * ((t.n : Int) - t.s)
def mean (t : Q4) : Rat := Rat.divInt (km t) ((t.n : Int) * t.n)
def kap (t : Q4) : Rat := Rat.divInt ((t.n : Int) * ((t.a : Int) + t.d) - km t) ((t.n : Int) * t.n - km t)
def kapD (t : Q4) : D := if km t = (t.n : Int) * t.n then .none else frac (kap t)
theorem frac_one : frac 1 = .tuple [.int 1, .int 1] := rfl
theorem sz_al {t : Q4} (h : t.ok) : Sz 20 (al t) := by
  obtain ⟨h1, h2⟩ := h
  have q : t.a + t.d ≤ 60 := by unfold Q4.n at h2; omega
  exact sz_div (by omega) (by rw [Int.natAbs_natCast]; omega) (by rw [Int.natAbs_natCast]; omega)
theorem prod_le {a b : Nat} (ha : a ≤ 60) (hb : b ≤ 60) : a * b ≤ 3600 := Nat.le_trans (Nat.mul_le_mul ha hb) (by decide)
theorem km_nat {t : Q4} : km t = ((t.f * t.s + (t.n - t.f) * (t.n - t.s) : Nat) : Int) := by
  have l := ns_le t
  unfold km
  rw [Int.natCast_add, Int.natCast_mul, Int.natCast_mul, Int.natCast_sub l.1, Int.natCast_sub l.2]
theorem km_abs {t : Q4} (h : t.ok) : (km t).natAbs ≤ 7200 := by
  have l := ns_le t
  have h2 := h.2
  rw [km_nat, Int.natAbs_natCast]
  have a := prod_le (show t.f ≤ 60 by omega) (show t.s ≤ 60 by omega)
  have b := prod_le (show t.n - t.f ≤ 60 by omega) (show t.n - t.s ≤ 60 by omega)
  omega
theorem nn_abs {t : Q4} (h : t.ok) : ((t.n : Int) * t.n) ≠ 0 ∧ ((t.n : Int) * t.n).natAbs ≤ 3600 := by
  obtain ⟨h1, h2⟩ := h
  refine ⟨Int.mul_ne_zero (by omega) (by omega), ?_⟩
  rw [Int.natAbs_mul, Int.natAbs_natCast]
  exact prod_le h2 h2
theorem sz_mean {t : Q4} (h : t.ok) : Sz 20 (mean t) :=
  sz_div (nn_abs h).1 (Nat.lt_of_le_of_lt (km_abs h) (by decide)) (Nat.lt_of_le_of_lt (nn_abs h).2 (by decide))
theorem sz_one : Sz 20 (1 : Rat) := ⟨by decide, by decide⟩
theorem mean_one {t : Q4} (h : t.ok) : mean t = 1 ↔ km t = (t.n : Int) * t.n := by
  unfold mean
  have e : (1 : Rat) = Rat.divInt 1 1 := by decide
  rw [e, Rat.divInt_eq_divInt_iff (nn_abs h).1 (by decide)]
  omega
theorem kap_eq {t : Q4} (h : t.ok) (hk : km t ≠ (t.n : Int) * t.n) : (al t - mean t) / (1 - mean t) = kap t := by
  have n0 : ((t.n : Int) : Rat) ≠ 0 := by
    have := h.1
    have z : (t.n : Int) ≠ 0 := by omega
    exact fun q => z (by exact_mod_cast q)
  unfold al mean kap
  rw [Rat.divInt_eq_div, Rat.divInt_eq_div, Rat.divInt_eq_div]
  have k0 : (((t.n : Int) * t.n - km t : Int) : Rat) ≠ 0 := fun q => hk (by
    have : (t.n : Int) * t.n - km t = 0 := by exact_mod_cast q
    omega)
  rw [Rat.intCast_sub, Rat.intCast_mul] at k0
  rw [Rat.intCast_sub, Rat.intCast_sub, Rat.intCast_mul, Rat.intCast_mul, Int.natCast_add, Rat.intCast_add]
  generalize ((t.n : Int) : Rat) = n at *
  generalize ((km t : Int) : Rat) = k at *
  grind
theorem ev_kappa_of {t : Q4} (h : t.ok) (st : Store) : m_kappa_of [t.D] st = .ok (kapD t) st := by
  have b1 : (t.f : Int).natAbs < 2 ^ 6 ∧ (t.s : Int).natAbs < 2 ^ 6 ∧ (t.n : Int).natAbs < 2 ^ 6 ∧ ((t.n : Int) - t.f).natAbs < 2 ^ 6 ∧ ((t.n : Int) - t.s).natAbs < 2 ^ 6 := by
    have l := ns_le t
    have h2 := h.2
    omega
  obtain ⟨f6, s6, n6, nf, ns⟩ := b1
  have g1 : gMul (.int t.f) (.int t.s) = some (.int ((t.f : Int) * t.s)) := gMul_int (small f6 (by decide)) (small s6 (by decide))
  have g2 : gMul (.int ((t.n : Int) - t.f)) (.int ((t.n : Int) - t.s)) = some (.int (((t.n : Int) - t.f) * ((t.n : Int) - t.s))) := gMul_int (small nf (by decide)) (small ns (by decide))
  have g3 : gMul (.int t.n) (.int t.n) = some (.int ((t.n : Int) * t.n)) := gMul_int (small n6 (by decide)) (small n6 (by decide))
  have e1 := hpart (km t) ((t.n : Int) * t.n) st (nn_abs h).1 (Nat.lt_of_le_of_lt (nn_abs h).2 (Nat.lt_of_lt_of_le (show 3600 < 2 ^ 12 by decide) (Nat.pow_le_pow_right (by decide) (by decide))))
  have o : okD 40 (kapD t) = true := by
    unfold kapD
    split
    · simp [okD]
    · exact ok_frac _
  have one : tupE (consA (cst (.int 1)) (consA (cst (.int 1)) nilA)) [some t.D, some (frac (mean t)), some (.int t.n), some (.int t.f), some (.int t.s)] st = .ok (frac 1) st := rfl
  refine run_check h (run_sq (ls1 := [some t.D, none, some (.int t.n), some (.int t.f), some (.int t.s)]) (run_asgT (run_app (run_one run_var) (ev_margins_by t st)) rfl)
    (run_sq (ls1 := [some t.D, some (frac (mean t)), some (.int t.n), some (.int t.f), some (.int t.s)]) (run_asg (run_app (ds := [.int (km t), .int ((t.n : Int) * t.n)]) (run_cons (run_bin (x := .int ((t.f : Int) * t.s)) (y := .int (((t.n : Int) - t.f) * ((t.n : Int) - t.s))) (run_bin (x := .int t.f) (y := .int t.s) run_var run_var g1)
      (run_bin (x := .int ((t.n : Int) - t.f)) (y := .int ((t.n : Int) - t.s)) (run_bin (x := .int t.n) (y := .int t.f) run_var run_var rfl) (run_bin (x := .int t.n) (y := .int t.s) run_var run_var rfl) g2) rfl) (run_one (run_bin (x := .int t.n) (y := .int t.n) run_var run_var g3))) e1)) (run_ret ?_))) rfl o
  have c : tru (bin gEq (var 1) (tupE (consA (cst (.int 1)) (consA (cst (.int 1)) nilA)))) [some t.D, some (frac (mean t)), some (.int t.n), some (.int t.f), some (.int t.s)] st = .ok (decide (mean t = 1)) st :=
    run_tru (x := .bool (decide (mean t = 1))) (run_bin (x := frac (mean t)) (y := frac 1) run_var one (by rw [rd_frac, rd_frac, gEq_ok (ok_frac _) (ok_frac _), eqv_frac])) rfl
  unfold ifE
  rw [c, bind_run]
  unfold kapD
  by_cases q : km t = (t.n : Int) * t.n
  · rw [if_pos (decide_eq_true ((mean_one h).mpr q)), if_pos q]; rfl
  · have q' : mean t ≠ 1 := fun z => q ((mean_one h).mp z)
    rw [decide_eq_false q', if_neg (by decide), if_neg q, ← kap_eq h q]
    exact run_app (run_cons (run_app (run_cons (run_app (run_one run_var) (ev_alike_by h st)) (run_one run_var)) (hminus _ _ 20 st (sz_al h) (sz_mean h) (by decide))) (run_one (run_app (run_cons one (run_one run_var)) (hminus _ _ 20 st sz_one (sz_mean h) (by decide)))))
      (hthrough _ _ 41 st (sz_sub (sz_al h) (sz_mean h)) (sz_sub sz_one (sz_mean h)) (by decide) fun z => q' (by grind))
end MP.K69

set_option Elab.async false
set_option linter.all false
set_option maxRecDepth 100000
set_option maxHeartbeats 4000000
set_option exponentiation.threshold 100000
/-! P69c: the law's own reckoning; margins. Own work. -/
namespace MP.K69
open PySem MP
theorem ev_law_kappa {t : Q4} (h : t.ok) (st : Store) : m__law_kappa [t.D] st = .ok (kapD t) st := by
  have b1 : (t.f : Int).natAbs < 2 ^ 6 ∧ (t.s : Int).natAbs < 2 ^ 6 ∧ (t.n : Int).natAbs < 2 ^ 6 ∧ ((t.n : Int) - t.f).natAbs < 2 ^ 6 ∧ ((t.n : Int) - t.s).natAbs < 2 ^ 6 ∧ ((t.a : Int) + t.d).natAbs < 2 ^ 6 := by
    have l := ns_le t
    have h2 := h.2
    have q : t.a + t.d ≤ 60 := by unfold Q4.n at h2; omega
    omega
  obtain ⟨f6, s6, n6, nf, ns, ad⟩ := b1
  have g1 : gMul (.int t.f) (.int t.s) = some (.int ((t.f : Int) * t.s)) := gMul_int (small f6 (by decide)) (small s6 (by decide))
  have g2 : gMul (.int ((t.n : Int) - t.f)) (.int ((t.n : Int) - t.s)) = some (.int (((t.n : Int) - t.f) * ((t.n : Int) - t.s))) := gMul_int (small nf (by decide)) (small ns (by decide))
  have g3 : gMul (.int t.n) (.int t.n) = some (.int ((t.n : Int) * t.n)) := gMul_int (small n6 (by decide)) (small n6 (by decide))
  have g4 : gMul (.int t.n) (.int ((t.a : Int) + t.d)) = some (.int ((t.n : Int) * ((t.a : Int) + t.d))) := gMul_int (small n6 (by decide)) (small ad (by decide))
  have i0 : bin gIdx (var 0) (cst (.int 0)) [some t.D, some (.int (km t)), some (.int t.n), some (.int t.f), some (.int t.s)] st = .ok (.int t.a) st := rfl
  have i3 : bin gIdx (var 0) (cst (.int 3)) [some t.D, some (.int (km t)), some (.int t.n), some (.int t.f), some (.int t.s)] st = .ok (.int t.d) st := rfl
  have o : okD 40 (kapD t) = true := by
    unfold kapD
    split
    · simp [okD]
    · exact ok_frac _
  have j0 : bin gIdx (var 0) (cst (.int 0)) [some t.D, none, none, none, none] st = .ok (.int t.a) st := rfl
  have j1 : bin gIdx (var 0) (cst (.int 1)) [some t.D, none, none, none, none] st = .ok (.int t.b) st := rfl
  have j2 : bin gIdx (var 0) (cst (.int 2)) [some t.D, none, none, none, none] st = .ok (.int t.c) st := rfl
  have ef : gAdd (.int t.a) (.int t.b) = some (.int (t.f : Nat)) := by rw [gAdd_int]; rfl
  have es : gAdd (.int t.a) (.int t.c) = some (.int (t.s : Nat)) := by rw [gAdd_int]; rfl
  refine run_fn (run_sq (ls1 := [some t.D, none, some (.int t.n), some (.int t.f), some (.int t.s)]) (run_par3 (x := .int t.n) (y := .int t.f) (z := .int t.s) (run_cons (run_blt (ds := [t.D]) (run_one run_var) (sum_D t)) (run_cons (run_bin (x := .int t.a) (y := .int t.b) j0 j1 ef) (run_one (run_bin (x := .int t.a) (y := .int t.c) j0 j2 es)))))
    (run_sq (ls1 := [some t.D, some (.int (km t)), some (.int t.n), some (.int t.f), some (.int t.s)]) (run_asg (run_bin (x := .int ((t.f : Int) * t.s)) (y := .int (((t.n : Int) - t.f) * ((t.n : Int) - t.s))) (run_bin (x := .int t.f) (y := .int t.s) run_var run_var g1)
      (run_bin (x := .int ((t.n : Int) - t.f)) (y := .int ((t.n : Int) - t.s)) (run_bin (x := .int t.n) (y := .int t.f) run_var run_var rfl) (run_bin (x := .int t.n) (y := .int t.s) run_var run_var rfl) g2) rfl)) (run_ret ?_))) o
  have c : tru (bin gEq (var 1) (bin gMul (var 2) (var 2))) [some t.D, some (.int (km t)), some (.int t.n), some (.int t.f), some (.int t.s)] st = .ok (km t == (t.n : Int) * t.n) st :=
    run_tru (x := .bool (km t == (t.n : Int) * t.n)) (run_bin (x := .int (km t)) (y := .int ((t.n : Int) * t.n)) run_var (run_bin (x := .int t.n) (y := .int t.n) run_var run_var g3) (gEq_int _ _)) rfl
  unfold ifE
  rw [c, bind_run]
  unfold kapD
  by_cases q : km t = (t.n : Int) * t.n
  · rw [if_pos (beq_iff_eq.mpr q), if_pos q]; rfl
  · rw [beq_eq_false_iff_ne.mpr q, if_neg (by decide), if_neg q]
    refine run_app (ds := [.int ((t.n : Int) * ((t.a : Int) + t.d) - km t), .int ((t.n : Int) * t.n - km t)]) (run_cons (run_bin (x := .int ((t.n : Int) * ((t.a : Int) + t.d))) (y := .int (km t)) (run_bin (x := .int t.n) (y := .int ((t.a : Int) + t.d)) run_var (run_bin (x := .int t.a) (y := .int t.d) i0 i3 rfl) g4) run_var rfl)
      (run_one (run_bin (x := .int ((t.n : Int) * t.n)) (y := .int (km t)) (run_bin (x := .int t.n) (y := .int t.n) run_var run_var g3) run_var rfl))) (lpart _ _ st (by omega) ?_)
    have a := km_abs h
    have b := (nn_abs h).2
    refine Nat.lt_of_lt_of_le (show ((t.n : Int) * t.n - km t).natAbs < 2 ^ 20 by omega) (Nat.pow_le_pow_right (by decide) (by decide))
/-! ### margins -/
def mD (n f s : Nat) : D := .tuple [.int n, .int f, .int s]
theorem ok_mD (n f s : Nat) : okD 40 (mD n f s) = true := by simp [mD, okD]
theorem ev_are_margins_of {n f s : Nat} (h1 : 1 ≤ n) (h2 : n ≤ 60) (hf : f ≤ n) (hs : s ≤ n) (st : Store) : m_are_margins_of [mD n f s] st = .ok (.bool true) st := by
  have e1 : m_is_tuple_of [mD n f s, .int 3] st = .ok (.bool true) st := ev_is_tuple_of _ (ok_mD n f s) 3 st
  have e2 : m_is_between [.int n, .int 1, .int 60] st = .ok (.bool true) st := by
    rw [ev_is_between]
    have a : (1 : Int) ≤ n := by omega
    have b : (n : Int) ≤ 60 := by omega
    simp [a, b]
  have e3 : m_are_between [.tuple [.int f, .int s], .int 0, .int n] st = .ok (.bool true) st := by
    have := ev_are_between [(f : Int), (s : Int)] (by simp) 0 n st
    have c : ([(f : Int), (s : Int)].all fun x => decide (0 ≤ x) && decide (x ≤ (n : Int))) = true := by simp; omega
    rw [c] at this
    exact this
  have i0 : bin gIdx (var 0) (cst (.int 0)) [some (mD n f s)] st = .ok (.int n) st := rfl
  have sl : slc (var 0) (someP (cst (.int 1))) noP [some (mD n f s)] st = .ok (.tuple [.int f, .int s]) st := rfl
  exact run_fn (run_sq (run_iffF (run_orF (run_not (run_tru (run_app (run_cons run_var (run_one run_cst)) e1) rfl)) (run_not (run_tru (run_app (run_cons i0 (run_cons run_cst (run_one run_cst))) e2) rfl))) rfl)
    (run_ret (run_app (run_cons sl (run_cons run_cst (run_one i0))) e3))) (by simp [okD])
theorem ev_are_margins {n f s : Nat} (h1 : 1 ≤ n) (h2 : n ≤ 60) (hf : f ≤ n) (hs : s ≤ n) (st : Store) : m_are_margins [mD n f s] st = .ok (.bool true) st :=
  run_fn (run_ret (run_app (run_one run_var) (ev_are_margins_of h1 h2 hf hs st))) (by simp [okD])
theorem ev_check_margins {n f s : Nat} (h1 : 1 ≤ n) (h2 : n ≤ 60) (hf : f ≤ n) (hs : s ≤ n) (st : Store) : m_check_margins [mD n f s] st = .ok .none st :=
  run_fnN (run_iffF (run_not (run_tru (run_app (run_one run_var) (ev_are_margins_of h1 h2 hf hs st)) rfl)) rfl)
def tabs (n f s : Nat) : List D := (bs n f s).map fun b => (tb n f s b).D
theorem ev_tables_of {n f s : Nat} (h1 : 1 ≤ n) (h2 : n ≤ 60) (hf : f ≤ n) (hs : s ≤ n) (st : Store) : m_tables_of [mD n f s] st = .ok (.tuple (tabs n f s)) st :=
  run_fn (run_sq (run_drp (run_app (run_one run_var) (ev_check_margins h1 h2 hf hs st))) (run_ret (run_app (run_one run_var) (ev_tables_by hf hs h2 st)))) (ok_tabs _ _)
theorem bs_ne {n f s : Nat} (hf : f ≤ n) (hs : s ≤ n) : bs n f s ≠ [] := fun z => by
  have : f + s - n ∈ bs n f s := mem_bs.mpr (by omega)
  rw [z] at this; cases this
theorem gIdx_lastT {ds : List D} {d : D} (h : ds.getLast? = some d) : gIdx (.tuple ds) (.int (-1)) = some d := gIdx_last (ds := ds) h
theorem tb_ok {n f s b : Nat} (h1 : 1 ≤ n) (h2 : n ≤ 60) (hb : b ∈ bs n f s) : (tb n f s b).ok := by
  have := (tb_n hb).1
  exact ⟨by omega, by omega⟩
/-- agreement at the first and the last table -/
theorem ev_alike_between {n f s b0 b1 : Nat} (h1 : 1 ≤ n) (h2 : n ≤ 60) (hf : f ≤ n) (hs : s ≤ n) (e0 : (bs n f s).head? = some b0) (e1 : (bs n f s).getLast? = some b1) (st : Store) :
    m_alike_between [mD n f s] st = .ok (.tuple [.tuple [frac (al (tb n f s b0)), (tb n f s b0).D], .tuple [frac (al (tb n f s b1)), (tb n f s b1).D]]) st := by
  have m0 : b0 ∈ bs n f s := List.mem_of_head? e0
  have m1 : b1 ∈ bs n f s := List.mem_of_getLast? e1
  have g0 : gIdx (.tuple (tabs n f s)) (.int 0) = some (tb n f s b0).D := gIdx_tup (n := 0) (by rw [← List.head?_eq_getElem?, tabs, List.head?_map, e0]; rfl)
  have g1 : gIdx (.tuple (tabs n f s)) (.int (-1)) = some (tb n f s b1).D := gIdx_lastT (by rw [tabs, List.getLast?_map, e1]; rfl)
  have i0 : bin gIdx (var 1) (cst (.int 0)) [some (mD n f s), some (.tuple (tabs n f s))] st = .ok (tb n f s b0).D st := run_bin (x := .tuple (tabs n f s)) (y := .int 0) run_var run_cst g0
  have i1 : bin gIdx (var 1) (una gNeg (cst (.int 1))) [some (mD n f s), some (.tuple (tabs n f s))] st = .ok (tb n f s b1).D st := run_bin (x := .tuple (tabs n f s)) (y := .int (-1)) run_var (run_una (x := .int 1) run_cst rfl) g1
  refine run_fn (run_sq (run_drp (run_app (run_one run_var) (ev_check_margins h1 h2 hf hs st))) (run_sq (ls1 := [some (mD n f s), some (.tuple (tabs n f s))]) (run_asg (run_app (run_one run_var) (ev_tables_by hf hs h2 st)))
    (run_ret (run_tup (run_cons (run_tup (run_cons (run_app (run_one i0) (ev_alike_by (tb_ok h1 h2 m0) st)) (run_one i0))) (run_one (run_tup (run_cons (run_app (run_one i1) (ev_alike_by (tb_ok h1 h2 m1) st)) (run_one i1))))))))) ?_
  simp [okD, frac, Q4.D]
/-! ### sums of fractions over one denominator -/
def fr (M : Int) (p : Int) : Rat := Rat.divInt p M
theorem fr_add {M p q : Int} (hM : M ≠ 0) : fr M p + fr M q = fr M (p + q) := by
  unfold fr
  rw [Rat.divInt_add_divInt _ _ hM hM, show p * M + q * M = (p + q) * M by rw [Int.add_mul], Rat.divInt_mul_right hM]
theorem sum_laps {M : Int} (hM : M ≠ 0) (hM2 : M.natAbs < 2 ^ 2000) {B : Nat} (x0 : Option D) (st : Store) : ∀ (ps : List Int) (acc : Int) (y : Option D), (∀ p ∈ ps, p.natAbs ≤ B) → acc.natAbs + ps.length * B < 2 ^ 2000 →
    ∃ z, forL (.nm 2) (asg 1 (app m__law_plus (consA (var 1) (consA (var 2) nilA)))) (ps.map fun p => frac (fr M p)) [x0, some (frac (fr M acc)), y] st = .ok (.nx [x0, some (frac (fr M (acc + ps.sum))), z]) st
  | [], acc, y, _, _ => ⟨y, by simp [forL]⟩
  | p :: ps, acc, y, hB, hb => by
    have hp := hB p List.mem_cons_self
    rw [List.length_cons, Nat.add_mul, Nat.one_mul] at hb
    obtain ⟨z, ih⟩ := sum_laps hM hM2 x0 st ps (acc + p) (some (frac (fr M p))) (fun q hq => hB q (List.mem_cons_of_mem _ hq)) (by omega)
    refine ⟨z, ?_⟩
    have a1 : asg 1 (app m__law_plus (consA (var 1) (consA (var 2) nilA))) [x0, some (frac (fr M acc)), some (frac (fr M p))] st = .ok (.nx [x0, some (frac (fr M (acc + p))), some (frac (fr M p))]) st := by
      have r := lplus (fr M acc) (fr M p) 2000 st (sz_div hM (by omega) hM2) (sz_div hM (by omega) hM2) (by decide)
      have r' : m__law_plus [frac (fr M acc), frac (fr M p)] st = .ok (frac (fr M (acc + p))) st := by rw [r]; show Res.ok (frac (fr M acc + fr M p)) st = _; rw [fr_add hM]
      exact run_asg (run_app (run_cons run_var (run_one run_var)) r')
    rw [List.map_cons, List.sum_cons, ← Int.add_assoc]
    unfold forL
    simp only [tgSet, List.set, a1, bind_run]
    exact ih
theorem fr_zero {M : Int} : fr M 0 = 0 := by unfold fr; rw [Rat.zero_divInt]
theorem ev_law_sum {M : Int} (hM : M ≠ 0) (hM2 : M.natAbs < 2 ^ 2000) {B : Nat} {ps : List Int} (hB : ∀ p ∈ ps, p.natAbs ≤ B) (hb : ps.length * B < 2 ^ 2000) (st : Store) : m__law_sum [.list (ps.map fun p => frac (fr M p))] st = .ok (frac (fr M ps.sum)) st := by
  obtain ⟨z, h⟩ := sum_laps hM hM2 (some (.list (ps.map fun p => frac (fr M p)))) st ps 0 none hB (by simpa using hb)
  rw [fr_zero, Int.zero_add] at h
  have h2 : forS (.nm 2) (iterS (var 0)) (asg 1 (app m__law_plus (consA (var 1) (consA (var 2) nilA)))) [some (.list (ps.map fun p => frac (fr M p))), some (frac 0), none] st = .ok (.nx [some (.list (ps.map fun p => frac (fr M p))), some (frac (fr M ps.sum)), z]) st := by
    unfold forS
    rw [run_iterS run_var, bind_run, h]
  exact run_fn (run_sq (ls1 := [some (.list (ps.map fun p => frac (fr M p))), some (frac 0), none]) (run_asg (run_tup (run_cons run_cst (run_one run_cst)))) (run_sq h2 (run_ret run_var))) (ok_frac _)
/-! ### the shares are fair -/
def below (rs : List Rat) (lv : Rat) : Nat := (rs.filter fun own => !decide (lv < own)).length
def fairB (N : Nat) (rs : List Rat) : Bool := rs.all fun lv => !decide (lv < Rat.divInt (below rs lv : Nat) (N : Nat))
theorem ev_share_fair {N : Nat} (hN : 0 < N) (hN2 : N < 2 ^ 100) {rs : List Rat} (hr : ∀ r ∈ rs, Sz 1000 r) (hl : rs.length ≤ 1000) (st : Store) : m__law_is_share_fair [.int N, .list (rs.map frac)] st = .ok (.bool (fairB N rs)) st := by
  have inner : ∀ lv ∈ rs, lc [3] (.nm 3) (iterS (var 1)) (notT (tru (app m__law_less (consA (var 2) (consA (var 3) nilA))))) (cst (.int 1)) [some (.int N), some (.list (rs.map frac)), some (frac lv), none] st = .ok (.list ((rs.filter fun own => !decide (lv < own)).map fun _ => PyData.int 1)) st := fun lv hlv =>
    lc_run (vs := [3]) (i := 3) rs frac (fun _ => PyData.int 1) (fun own => !decide (lv < own)) (run_iterS run_var) (by omega) fun own ho => ⟨run_not (run_tru (x := .bool (decide (lv < own))) (run_app (run_cons run_var (run_one run_var)) (lless lv own 1000 st (hr lv hlv) (hr own ho) (by decide))) rfl), fun _ => rfl⟩
  have outer := lc_all (vs := [2]) (i := 2) (it := iterS (var 1)) (e := valT (notT (tru (app m__law_less (consA (var 2) (consA (app m__law_part (consA (blt bLen (consA (lc [3] (.nm 3) (iterS (var 1)) (notT (tru (app m__law_less (consA (var 2) (consA (var 3) nilA))))) (cst (.int 1))) nilA)) (consA (var 0) nilA))) nilA)))))) (ls := [some (.int N), some (.list (rs.map frac)), none, none]) (st := st) (st1 := st)
    rs frac (fun lv => PyData.bool (!decide (lv < Rat.divInt (below rs lv : Nat) (N : Nat)))) (run_iterS run_var) (by omega) fun lv hlv => by
      have q : ((N : Nat) : Int) ≠ 0 := by omega
      have q2 : ((N : Nat) : Int).natAbs < 2 ^ 1000 := by rw [Int.natAbs_natCast]; exact Nat.lt_trans hN2 (Nat.pow_lt_pow_right (by decide) (by decide))
      have bl : below rs lv ≤ 1000 := Nat.le_trans (List.length_filter_le _ _) hl
      have sz : Sz 1000 (Rat.divInt (below rs lv : Nat) (N : Nat)) := sz_div q (by rw [Int.natAbs_natCast]; exact Nat.lt_of_le_of_lt bl (Nat.lt_of_lt_of_le (show 1000 < 2 ^ 10 by decide) (Nat.pow_le_pow_right (by decide) (by decide)))) q2
      refine run_val (run_not (run_tru (x := .bool (decide (lv < Rat.divInt (below rs lv : Nat) (N : Nat)))) (run_app (run_cons run_var (run_one (run_app (ds := [.int (below rs lv : Nat), .int (N : Nat)]) (run_cons (run_blt (run_one (inner lv hlv)) ?_) (run_one run_var)) (lpart _ _ st q (Nat.lt_trans q2 (Nat.pow_lt_pow_right (by decide) (by decide))))))) (lless lv _ 1000 st (hr lv hlv) sz (by decide))) rfl))
      show some (PyData.int _) = _
      rw [List.length_map]; rfl
  have ha : bAll [.list (rs.map fun lv => PyData.bool (!decide (lv < Rat.divInt (below rs lv : Nat) (N : Nat))))] = some (.bool (fairB N rs)) := by
    have e : (rs.map fun lv => PyData.bool (!decide (lv < Rat.divInt (below rs lv : Nat) (N : Nat)))) = (rs.map fun lv => !decide (lv < Rat.divInt (below rs lv : Nat) (N : Nat))).map PyData.bool := by rw [List.map_map]; rfl
    rw [e]
    show Option.map (fun l => PyData.bool (l.all id)) (asBools _) = _
    rw [asBools_map, Option.map_some, List.all_map]; rfl
  exact run_fn (run_ret (run_blt (run_one outer) ha)) (by simp [okD])
/-! ### a fraction is known -/
theorem ev_is_fraction {r : Rat} {k : Nat} (h : Sz k r) (hk : k ≤ 4900) (st : Store) : m_is_fraction [frac r] st = .ok (.bool true) st := by
  have e1 : m_is_tuple_of [frac r, .int 2] st = .ok (.bool true) st := ev_is_tuple_of _ (ok_frac r) 2 st
  have i0 : bin gIdx (var 0) (cst (.int 0)) [some (frac r)] st = .ok (.int r.num) st := rfl
  have i1 : bin gIdx (var 0) (cst (.int 1)) [some (frac r)] st = .ok (.int (r.den : Int)) st := rfl
  have d0 := r.den_nz
  have lt : decide ((r.den : Int) < 1) = false := decide_eq_false (by omega)
  have g := hgcd r.num.natAbs r.den st (Nat.lt_of_lt_of_le h.den (Nat.pow_le_pow_right (by decide) hk))
  have red : Nat.gcd r.num.natAbs r.den = 1 := r.reduced
  rw [red] at g
  refine run_fn (run_sq (run_iffF (run_orF (run_not (run_tru (run_app (run_cons run_var (run_one run_cst)) e1) rfl)) (run_orF (run_not (run_tru (run_app (run_one i0) (ev_is_integer _ st)) rfl)) (run_orF (run_not (run_tru (run_app (run_one i1) (ev_is_integer _ st)) rfl)) (run_tru (x := .bool false) (run_bin (x := .int (r.den : Int)) (y := .int 1) i1 run_cst (by rw [rd_int, rd_int, gLt_int, lt])) rfl)))) rfl)
    (run_ret (run_bin (x := .int 1) (y := .int 1) (run_app (run_cons (run_blt (ds := [.int r.num]) (run_one i0) (bAbs_int _)) (run_one i1)) g) run_cst rfl))) (by simp [okD])
end MP.K69

set_option Elab.async false
set_option linter.all false
set_option maxRecDepth 100000
set_option maxHeartbeats 4000000
set_option exponentiation.threshold 100000
/-! P69d: what is needed; all lots. Own work. -/
namespace MP.K69
open PySem MP
theorem sumW_lt {xs : List Q4} (hx : ∀ x ∈ xs, x.n ≤ 60) (hl : xs.length ≤ 1000) : sumW xs < 2 ^ 200 := by
  have e : ∀ ys : List Q4, (∀ x ∈ ys, x.n ≤ 60) → sumW ys ≤ ys.length * 2 ^ 120 := by
    intro ys
    induction ys with
    | nil => intro _; exact Nat.zero_le _
    | cons y ys ih =>
      intro h
      have hy := h y List.mem_cons_self
      unfold Q4.n at hy
      have l1 := ch_le (y.a + y.b) y.a
      have l2 := ch_le (y.c + y.d) y.c
      have p1 : 2 ^ (y.a + y.b) ≤ 2 ^ 60 := Nat.pow_le_pow_right (by decide) (by omega)
      have p2 : 2 ^ (y.c + y.d) ≤ 2 ^ 60 := Nat.pow_le_pow_right (by decide) (by omega)
      have w : y.ways ≤ 2 ^ 60 * 2 ^ 60 := Nat.mul_le_mul (by omega) (by omega)
      have i := ih fun x hx => h x (List.mem_cons_of_mem _ hx)
      unfold sumW at i ⊢
      rw [List.map_cons, List.sum_cons, List.length_cons, Nat.succ_mul]
      have : (2 : Nat) ^ 60 * 2 ^ 60 = 2 ^ 120 := by decide
      omega
  have := e xs hx
  have : xs.length * 2 ^ 120 ≤ 1000 * 2 ^ 120 := Nat.mul_le_mul_right _ hl
  omega
theorem sz_wr {t : Q4} (h : t.n ≤ 60) {xs : List Q4} (hx : ∀ x ∈ xs, x.n ≤ 60) (hl : xs.length ≤ 1000) : Sz 200 (wr xs t) := by
  have l := ch_le t.n t.s
  have p : 2 ^ t.n ≤ 2 ^ 60 := Nat.pow_le_pow_right (by decide) h
  exact sz_div ch_ne.1 (by rw [Int.natAbs_natCast]; exact sumW_lt hx hl) (by rw [Int.natAbs_natCast]; omega)
/-- the share of b and above -/
def sa (n f s b : Nat) : Rat := wr (sel (tb n f s b) fun c => decide (b ≤ c)) (tb n f s b)
theorem ev_sa {n f s b : Nat} (hn : n ≤ 60) (hb : b ∈ bs n f s) (st : Store) : m_share_above_by [(tb n f s b).D] st = .ok (frac (sa n f s b)) st :=
  ev_share_above_by (by rw [(tb_n hb).1]; exact hn) st
theorem sz_sa {n f s b : Nat} (hn : n ≤ 60) (hb : b ∈ bs n f s) : Sz 200 (sa n f s b) := by
  have h : (tb n f s b).n ≤ 60 := by rw [(tb_n hb).1]; exact hn
  exact sz_wr h (tabs_n h _) (tabs_len h _)
/-- the numbers of both that the level lets pass -/
def pass (lv : Rat) (n f s : Nat) : List Nat := (bs n f s).filter fun b => !decide (lv < sa n f s b)
def headD (xs : List Nat) : D := match xs with
  | [] => .none
  | b :: _ => .int (b : Nat)
theorem ok_headD (xs : List Nat) : okD 40 (headD xs) = true := by cases xs <;> simp [headD, okD]
theorem gEq_empty (xs : List Nat) : gEq (.list (xs.map fun b => PyData.int (b : Nat))) (.list []) = some (.bool xs.isEmpty) := by
  rw [gEq_ok (by simp [okD]) (by simp [okD])]
  cases xs with
  | nil => simp [PyData.eqv, PyData.eqvAll]
  | cons x xs => simp [PyData.eqv, PyData.eqvAll]
theorem head_or (xs : List Nat) {ls : Ls} {i : Nat} (hv : ls[i]? = some (some (.list (xs.map fun b => PyData.int (b : Nat))))) (st : Store) : ifE (tru (bin gEq (var i) (lstE nilA))) (cst .none) (bin gIdx (var i) (cst (.int 0))) ls st = .ok (headD xs) st := by
  have c : tru (bin gEq (var i) (lstE nilA)) ls st = .ok xs.isEmpty st := run_tru (x := .bool xs.isEmpty) (run_bin (x := .list (xs.map fun b => PyData.int (b : Nat))) (y := .list []) (run_var hv) rfl (gEq_empty xs)) rfl
  unfold ifE
  rw [c, bind_run]
  cases xs with
  | nil => rfl
  | cons x xs => exact run_bin (x := .list ((x :: xs).map fun b => PyData.int (b : Nat))) (y := .int 0) (run_var hv) run_cst (gIdx_l0 _ _)
theorem ev_needed {n f s : Nat} (h1 : 1 ≤ n) (h2 : n ≤ 60) (hf : f ≤ n) (hs : s ≤ n) {lv : Rat} (hz : Sz 200 lv) (l0 : 0 ≤ lv.num) (l1 : lv.num ≤ lv.den) (st : Store) : m_needed [mD n f s, frac lv] st = .ok (headD (pass lv n f s)) st := by
  have i0 : bin gIdx (var 1) (cst (.int 0)) [some (mD n f s), some (frac lv), none, none] st = .ok (.int lv.num) st := rfl
  have i1 : bin gIdx (var 1) (cst (.int 1)) [some (mD n f s), some (frac lv), none, none] st = .ok (.int (lv.den : Int)) st := rfl
  have c : chn (cst (.int 0)) [(.LtE, (bin gIdx (var 1) (cst (.int 0)))), (.LtE, (bin gIdx (var 1) (cst (.int 1))))] [some (mD n f s), some (frac lv), none, none] st = .ok true st := by
    unfold chn
    rw [run_cst, bind_run]
    simp only [chainT, i0, i1, bind_run, rd_int, gCmp, gLe_int, decide_eq_true l0, decide_eq_true l1, ofOpt_some, rd_bool, gTru_bool, if_true]
  have hlc := lc_run (vs := [3]) (i := 3) (it := iterS (app m_tables_by (consA (var 0) nilA))) (t := notT (tru (app m_is_less (consA (var 1) (consA (app m_share_above_by (consA (var 3) nilA)) nilA))))) (e := bin gIdx (var 3) (cst (.int 0))) (ls := [some (mD n f s), some (frac lv), none, none]) (st := st) (st1 := st)
    (bs n f s) (fun b => (tb n f s b).D) (fun b => PyData.int (b : Nat)) (fun b => !decide (lv < sa n f s b)) (run_iterT (run_app (run_one run_var) (ev_tables_by hf hs h2 st))) (by have := bs_len n f s; omega) fun b hb =>
      ⟨run_not (run_tru (x := .bool (decide (lv < sa n f s b))) (run_app (run_cons run_var (run_one (run_app (run_one run_var) (ev_sa h2 hb st)))) (hless lv _ 200 st hz (sz_sa h2 hb) (by decide))) rfl), fun _ => rfl⟩
  exact run_fn (run_sq (run_drp (run_app (run_one run_var) (ev_check_margins h1 h2 hf hs st))) (run_sq (run_iffF (run_orF (run_not (run_tru (run_app (run_one run_var) (ev_is_fraction hz (by decide) st)) rfl)) (run_not c)) rfl)
    (run_sq (ls1 := [some (mD n f s), some (frac lv), some (.list ((pass lv n f s).map fun b => PyData.int (b : Nat))), none]) (run_asg hlc) (run_ret (head_or (pass lv n f s) rfl st))))) (ok_headD _)
/-! ### all lots -/
def lotD (l : List Nat) : D := .tuple (l.map fun i => PyData.int (i : Nat))
def lotsF (size : Nat) : Nat → List (List Nat)
  | 0 => [[]]
  | at_ + 1 => lotsF size at_ ++ ((lotsF size at_).filter fun l => decide (l.length < size)).map fun l => l ++ [at_]
def lots (many size : Nat) : List (List Nat) := (lotsF size many).filter fun l => l.length == size
theorem lotsF_len (size : Nat) : ∀ k, (lotsF size k).length ≤ 2 ^ k
  | 0 => Nat.le_refl _
  | k + 1 => by
    unfold lotsF
    rw [List.length_append, List.length_map]
    have a := lotsF_len size k
    have b := List.length_filter_le (fun l : List Nat => decide (l.length < size)) (lotsF size k)
    rw [Nat.pow_succ]; omega
theorem lotsF_mem (size : Nat) : ∀ k, ∀ l ∈ lotsF size k, l.length ≤ k
  | 0, l, h => by
    have : l = [] := by simpa [lotsF] using h
    subst this; exact Nat.zero_le _
  | k + 1, l, h => by
    unfold lotsF at h
    rcases List.mem_append.mp h with h | h
    · have := lotsF_mem size k l h; omega
    · obtain ⟨m, hm, rfl⟩ := List.mem_map.mp h
      have := lotsF_mem size k m (List.mem_filter.mp hm).1
      rw [List.length_append, List.length_singleton]; omega
theorem lotD_snoc (l : List Nat) (i : Nat) (h : l.length ≤ 100) : gAdd (lotD l) (.tuple [.int i]) = some (lotD (l ++ [i])) := by
  have : gAdd (lotD l) (.tuple [.int i]) = some (.tuple ((l.map fun i => PyData.int (i : Nat)) ++ [.int i])) := if_pos (by simp; omega)
  rw [this, lotD, List.map_append]; rfl
abbrev lotBody : MS := asg 2 (bin gAdd (var 2) (lc [4] (.nm 4) (iterS (var 2)) (tru (bin gLt (blt bLen (consA (var 4) nilA)) (var 1))) (bin gAdd (var 4) (tupE (consA (var 3) nilA)))))
theorem lotLen (l : List Nat) : bLen [lotD l] = some (.int (l.length : Nat)) := by
  show some (PyData.int _) = _
  rw [List.length_map]
theorem lot_laps {many size : Nat} (hm : many ≤ 20) (st : Store) : ∀ (m t : Nat) (x : Option D), t + m = many → ∃ y, forL (.nm 3) lotBody ((List.range' t m).map fun i => PyData.int (i : Nat)) [some (.int many), some (.int size), some (.list ((lotsF size t).map lotD)), x, none] st = .ok (.nx [some (.int many), some (.int size), some (.list ((lotsF size many).map lotD)), y, none]) st
  | 0, t, x, h => ⟨x, by rw [show t = many by omega]; rfl⟩
  | m + 1, t, x, h => by
    obtain ⟨y, ih⟩ := lot_laps hm st m (t + 1) (some (.int t)) (by omega)
    refine ⟨y, ?_⟩
    have len := lotsF_len size t
    have p : 2 ^ t ≤ 2 ^ 20 := Nat.pow_le_pow_right (by decide) (by omega)
    have hlc := lc_run (vs := [4]) (i := 4) (it := iterS (var 2)) (t := tru (bin gLt (blt bLen (consA (var 4) nilA)) (var 1))) (e := bin gAdd (var 4) (tupE (consA (var 3) nilA))) (ls := [some (.int many), some (.int size), some (.list ((lotsF size t).map lotD)), some (.int t), none]) (st := st) (st1 := st)
      (lotsF size t) lotD (fun l => lotD (l ++ [t])) (fun l => decide (l.length < size)) (run_iterS run_var) (by omega) fun l hl =>
        ⟨run_tru (x := .bool (decide (l.length < size))) (run_bin (x := .int (l.length : Nat)) (y := .int size) (run_blt (ds := [lotD l]) (run_one run_var) (lotLen l)) run_var (by
          rw [rd_int, rd_int, gLt_int]; congr 2; exact decide_eq_decide.mpr Int.ofNat_lt)) rfl,
        fun _ => run_bin (x := lotD l) (y := .tuple [.int t]) run_var (run_tup (run_one run_var)) (lotD_snoc l t (by have := lotsF_mem size t l hl; omega))⟩
    have g : gAdd (.list ((lotsF size t).map lotD)) (.list (((lotsF size t).filter fun l => decide (l.length < size)).map fun l => lotD (l ++ [t]))) = some (.list ((lotsF size (t + 1)).map lotD)) := by
      have e : gAdd (.list ((lotsF size t).map lotD)) (.list (((lotsF size t).filter fun l => decide (l.length < size)).map fun l => lotD (l ++ [t]))) = some (.list ((lotsF size t).map lotD ++ ((lotsF size t).filter fun l => decide (l.length < size)).map fun l => lotD (l ++ [t]))) := if_pos (by
        have b := List.length_filter_le (fun l : List Nat => decide (l.length < size)) (lotsF size t)
        rw [List.length_map, List.length_map]; omega)
      rw [e]
      show _ = some (PyData.list ((lotsF size t ++ ((lotsF size t).filter fun l => decide (l.length < size)).map fun l => l ++ [t]).map lotD))
      rw [List.map_append, List.map_map]; rfl
    have a1 : lotBody [some (.int many), some (.int size), some (.list ((lotsF size t).map lotD)), some (.int t), none] st = .ok (.nx [some (.int many), some (.int size), some (.list ((lotsF size (t + 1)).map lotD)), some (.int t), none]) st :=
      run_asg (run_bin (x := .list ((lotsF size t).map lotD)) (y := .list (((lotsF size t).filter fun l => decide (l.length < size)).map fun l => lotD (l ++ [t]))) run_var hlc g)
    rw [List.range'_succ, List.map_cons]
    unfold forL
    simp only [tgSet, List.set, a1, bind_run]
    exact ih
theorem ev_lots {many size : Nat} (hm : many ≤ 20) (st : Store) : m__law_lots [.int many, .int size] st = .ok (.list ((lots many size).map lotD)) st := by
  obtain ⟨y, h⟩ := lot_laps (size := size) hm st many 0 none (by omega)
  have it : iterR1 (consA (var 0) nilA) [some (.int many), some (.int size), some (.list [.tuple []]), none, none] st = .ok ((List.range' 0 many).map fun i => PyData.int (i : Nat)) st := by
    have c : ((many : Int) ≤ 16777216 ∧ -16777216 ≤ (many : Int)) := ⟨by omega, by omega⟩
    unfold iterR1
    rw [run_one run_var, bind_run]
    exact (if_pos c).trans (by rw [rng_nat, List.range_eq_range'])
  have h2 : forS (.nm 3) (iterR1 (consA (var 0) nilA)) lotBody [some (.int many), some (.int size), some (.list [.tuple []]), none, none] st = .ok (.nx [some (.int many), some (.int size), some (.list ((lotsF size many).map lotD)), y, none]) st := by
    unfold forS
    rw [it, bind_run]
    exact h
  have len := lotsF_len size many
  have p : 2 ^ many ≤ 2 ^ 20 := Nat.pow_le_pow_right (by decide) hm
  have hlc := lc_run (vs := [4]) (i := 4) (it := iterS (var 2)) (t := tru (bin gEq (blt bLen (consA (var 4) nilA)) (var 1))) (e := var 4) (ls := [some (.int many), some (.int size), some (.list ((lotsF size many).map lotD)), y, none]) (st := st) (st1 := st)
    (lotsF size many) lotD lotD (fun l => l.length == size) (run_iterS run_var) (by omega) fun l hl =>
      ⟨run_tru (x := .bool (l.length == size)) (run_bin (x := .int (l.length : Nat)) (y := .int size) (run_blt (ds := [lotD l]) (run_one run_var) (lotLen l)) run_var (by
        rw [rd_int, rd_int, gEq_int]; congr 2
        rw [Bool.eq_iff_iff, beq_iff_eq, beq_iff_eq]; omega)) rfl, fun _ => rfl⟩
  refine run_fn (run_sq (ls1 := [some (.int many), some (.int size), some (.list [.tuple []]), none, none]) (run_asg (run_lst (run_one rfl))) (run_sq h2 (run_ret hlc))) ?_
  simp [okD, lotD]
end MP.K69

set_option Elab.async false
set_option linter.all false
set_option maxRecDepth 1000000
set_option maxHeartbeats 4000000
set_option exponentiation.threshold 100000
/-! P69e: what holds of all lots of at most eight things. Own work. -/
namespace MP.K69
open PySem MP
def both (f : Nat) (l : List Nat) : Nat := (l.filter fun i => decide (i < f)).length
def evB (n f s : Nat) : List Nat := (lots n s).map (both f)
def zsB (n f s b : Nat) : List Int := (tb n f s b).zs
/-- the ways of b and above, of b and below, of all not above b's own -/
def wsum (n f s : Nat) (p : Nat → Bool) : Nat := sumW (((bs n f s).filter p).map (tb n f s))
def wy (n f s b : Nat) : Nat := (tb n f s b).ways
def chk1 (n f s : Nat) : Bool := (evB n f s).all (fun b => (bs n f s).contains b) && (evB n f s).length == ch n s && decide (sortU ((evB n f s).map (zsB n f s)) = (bs n f s).map (zsB n f s)) && (bs n f s).all (fun b => (evB n f s).count b == wy n f s b) && n * (evB n f s).sum == f * s * (evB n f s).length
def chk2 (n f s : Nat) : Bool := (bs n f s).all fun b => (evB n f s).countP (fun c => decide (wsum n f s (fun d => decide (c ≤ d)) ≤ wsum n f s (fun d => decide (b ≤ d)))) ≤ wsum n f s (fun d => decide (b ≤ d))
def upTo (p : Nat → Nat → Nat → Bool) : Bool := (List.range' 1 8).all fun n => (List.range (n + 1)).all fun f => (List.range (n + 1)).all fun s => p n f s
theorem upTo_get {p : Nat → Nat → Nat → Bool} (h : upTo p = true) {n f s : Nat} (h1 : 1 ≤ n) (h2 : n ≤ 8) (hf : f ≤ n) (hs : s ≤ n) : p n f s = true := by
  unfold upTo at h
  have a := List.all_eq_true.mp h n (List.mem_range'_1.mpr (by omega))
  have b := List.all_eq_true.mp a f (List.mem_range.mpr (by omega))
  exact List.all_eq_true.mp b s (List.mem_range.mpr (by omega))

theorem all1 : upTo chk1 = true := by decide +kernel
theorem all2 : upTo chk2 = true := by decide +kernel
end MP.K69
namespace MP.K69
open PySem MP
def chk3 (n f s : Nat) : Bool := (bs n f s).all fun b => (evB n f s).countP (fun c => decide (wsum n f s (fun d => decide (wy n f s d ≤ wy n f s c)) ≤ wsum n f s (fun d => decide (wy n f s d ≤ wy n f s b)))) ≤ wsum n f s (fun d => decide (wy n f s d ≤ wy n f s b))
theorem all3 : upTo chk3 = true := by decide +kernel
end MP.K69

set_option Elab.async false
set_option linter.all false
set_option maxRecDepth 100000
set_option maxHeartbeats 4000000
set_option exponentiation.threshold 100000
/-! P69f: counting in all lots. Own work. -/
namespace MP.K69
open PySem MP
theorem countP_split {p q : Nat → Bool} (h : ∀ x, p x = true → q x = true → False) : ∀ l : List Nat, l.countP (fun x => p x || q x) = l.countP p + l.countP q
  | [] => rfl
  | x :: l => by
    rw [List.countP_cons, List.countP_cons, List.countP_cons, countP_split h l]
    have := h x
    cases hp : p x <;> cases hq : q x <;> simp_all <;> omega
theorem countP_in (l : List Nat) (p : Nat → Bool) : ∀ B : List Nat, B.Nodup → l.countP (fun x => p x && B.contains x) = ((B.filter p).map l.count).sum
  | [], _ => by simp
  | b :: B, h => by
    obtain ⟨hb, hB⟩ := List.nodup_cons.mp h
    have ih := countP_in l p B hB
    have e : (fun x => p x && (b :: B).contains x) = fun x => (p x && x == b) || (p x && B.contains x) := by
      funext x
      rw [List.contains_cons]
      cases p x <;> simp
    rw [e, countP_split (fun x h1 h2 => by
      simp only [Bool.and_eq_true, beq_iff_eq] at h1 h2
      rw [h1.2] at h2
      exact hb (by simpa using h2.2)), ih]
    have f : l.countP (fun x => p x && x == b) = if p b = true then l.count b else 0 := by
      split
      · rename_i q
        rw [List.count_eq_countP]
        refine List.countP_congr fun x _ => ?_
        simp only [Bool.and_eq_true, beq_iff_eq]
        exact ⟨fun h => h.2, fun h => ⟨by rw [h]; exact q, h⟩⟩
      · rename_i q
        rw [List.countP_eq_zero]
        intro x _ h
        simp only [Bool.and_eq_true, beq_iff_eq] at h
        rw [h.2] at h
        exact q h.1
    rw [f]
    by_cases q : p b = true
    · rw [if_pos q, List.filter_cons_of_pos q, List.map_cons, List.sum_cons]
    · rw [if_neg q, List.filter_cons_of_neg q, Nat.zero_add]
/-- what the checks say -/
structure Lots (n f s : Nat) : Prop where
  sub : ∀ b ∈ evB n f s, b ∈ bs n f s
  len : (evB n f s).length = ch n s
  sort : sortU ((evB n f s).map (zsB n f s)) = (bs n f s).map (zsB n f s)
  cnt : ∀ b ∈ bs n f s, (evB n f s).count b = wy n f s b
  sum : n * (evB n f s).sum = f * s * (evB n f s).length
  fair2 : ∀ b ∈ bs n f s, (evB n f s).countP (fun c => decide (wsum n f s (fun d => decide (wy n f s d ≤ wy n f s c)) ≤ wsum n f s (fun d => decide (wy n f s d ≤ wy n f s b)))) ≤ wsum n f s (fun d => decide (wy n f s d ≤ wy n f s b))
  fair : ∀ b ∈ bs n f s, (evB n f s).countP (fun c => decide (wsum n f s (fun d => decide (c ≤ d)) ≤ wsum n f s (fun d => decide (b ≤ d)))) ≤ wsum n f s (fun d => decide (b ≤ d))
theorem lots_of {n f s : Nat} (h1 : 1 ≤ n) (h2 : n ≤ 8) (hf : f ≤ n) (hs : s ≤ n) : Lots n f s := by
  have a := upTo_get all1 h1 h2 hf hs
  have b := upTo_get all2 h1 h2 hf hs
  have c := upTo_get all3 h1 h2 hf hs
  unfold chk1 at a
  unfold chk2 at b
  unfold chk3 at c
  simp only [List.all_eq_true, decide_eq_true_eq] at c
  simp only [Bool.and_eq_true, List.all_eq_true, beq_iff_eq, decide_eq_true_eq] at a
  simp only [List.all_eq_true, decide_eq_true_eq] at b
  obtain ⟨⟨⟨⟨a1, a2⟩, a3⟩, a4⟩, a5⟩ := a
  exact ⟨fun b hb => by simpa using a1 b hb, a2, a3, fun b hb => a4 b hb, a5, fun b hb => c b hb, fun c hc => b c hc⟩
theorem bs_nodup (n f s : Nat) : (bs n f s).Nodup := by unfold bs; exact List.nodup_range'
theorem countP_ways {n f s : Nat} (L : Lots n f s) (p : Nat → Bool) : (evB n f s).countP p = wsum n f s p := by
  have e : (evB n f s).countP p = (evB n f s).countP (fun x => p x && (bs n f s).contains x) := List.countP_congr fun x hx => by
    have := L.sub x hx
    simp [this]
  rw [e, countP_in _ _ _ (bs_nodup n f s)]
  unfold wsum sumW
  rw [List.map_map]
  congr 1
  refine List.map_congr_left fun b hb => ?_
  exact L.cnt b (List.mem_filter.mp hb).1
theorem wsum_all {n f s : Nat} (L : Lots n f s) : wsum n f s (fun _ => true) = ch n s := by
  rw [← countP_ways L, ← L.len, List.countP_eq_length.mpr (fun _ _ => rfl)]
/-- the shares over the lots -/
theorem sel_tb {n f s b : Nat} (hb : b ∈ bs n f s) (p : Nat → Bool) : sel (tb n f s b) p = ((bs n f s).filter p).map (tb n f s) := by
  obtain ⟨e1, e2, e3⟩ := tb_n hb
  unfold sel
  rw [e1, e2, e3]
theorem wr_tb {n f s b : Nat} (hb : b ∈ bs n f s) (p : Nat → Bool) : wr (sel (tb n f s b) p) (tb n f s b) = Rat.divInt (wsum n f s p : Nat) (ch n s : Nat) := by
  obtain ⟨e1, e2, e3⟩ := tb_n hb
  unfold wr
  rw [sel_tb hb, e1, e3]; rfl
theorem eqvAll_ints : ∀ l m : List Int, PyData.eqvAll (l.map PyData.int) (m.map PyData.int) = decide (l = m)
  | [], [] => by simp [PyData.eqvAll]
  | [], _ :: _ => by simp [PyData.eqvAll]
  | _ :: _, [] => by simp [PyData.eqvAll]
  | x :: l, y :: m => by
    rw [List.map_cons, List.map_cons, PyData.eqvAll, eqvAll_ints l m]
    simp only [PyData.eqv]
    by_cases h1 : x = y <;> by_cases h2 : l = m <;> simp [h1, h2]
theorem eqv_tb {n f s b c : Nat} : PyData.eqv (tb n f s c).D (tb n f s b).D = decide (c = b) := by
  show PyData.eqv (.tuple _) (.tuple _) = _
  rw [PyData.eqv, eqvAll_ints]
  by_cases h : c = b
  · subst h; simp
  · have : (tb n f s c).zs ≠ (tb n f s b).zs := fun z => h (by
      unfold Q4.zs tb at z
      simp only [List.cons.injEq] at z
      have := z.1
      omega)
    simp [h, this]
def evD (n f s : Nat) : List D := (evB n f s).map fun b => (tb n f s b).D
theorem count_tb {n f s b : Nat} : gCount (.list (evD n f s)) (tb n f s b).D = some (.int ((evB n f s).count b : Nat)) := by
  have h : okD 40 (tb n f s b).D = true ∧ (evD n f s).all (okD 40) = true := by
    refine ⟨ok_D _, ?_⟩
    rw [List.all_eq_true]
    intro d hd
    obtain ⟨c, _, rfl⟩ := List.mem_map.mp hd
    exact ok_D _
  have e : gCount (.list (evD n f s)) (tb n f s b).D = some (.int ((evD n f s).countP fun y => PyData.eqv y (tb n f s b).D : Nat)) := if_pos h
  rw [e, evD, List.countP_map, List.count_eq_countP]
  congr 3
  refine List.countP_congr fun c _ => ?_
  simp only [Function.comp, eqv_tb]
  simp
end MP.K69

set_option Elab.async false
set_option linter.all false
set_option maxRecDepth 100000
set_option maxHeartbeats 4000000
set_option exponentiation.threshold 100000
/-! P69g: the ways by all lots, step by step. Own work. -/
namespace MP.K69
open PySem MP
theorem allTups_tb (n f s : Nat) : ∀ l : List Nat, allTups (l.map fun b => (tb n f s b).D) = some (l.map (zsB n f s))
  | [] => rfl
  | b :: l => by
    rw [List.map_cons, allTups, allTups_tb n f s l]
    have : tupInts (tb n f s b).D = some (zsB n f s b) := asInts_map _
    rw [this]; rfl
theorem zs_ok {n f s b : Nat} (h1 : 1 ≤ n) (hn : n ≤ 60) (hb : b ∈ bs n f s) : ((zsB n f s b).length == 4 && (zsB n f s b).all fun z => decide (0 ≤ z) && decide (z < 1000000)) = true := by
  have := (tb_ok h1 hn hb).2
  unfold Q4.n at this
  unfold zsB Q4.zs
  simp
  omega
theorem sort_tb {n f s : Nat} (h1 : 1 ≤ n) (hn : n ≤ 60) (L : Lots n f s) (hs : s ≤ n) : gSortSet (.list (evD n f s)) = some (.list (tabs n f s)) := by
  have ne : evB n f s ≠ [] := fun z => by
    have := L.len
    rw [z] at this
    have p := ch_pos n s hs
    simp at this
    omega
  have e : gSortSet (.list (evD n f s)) = (allTups (evD n f s)).bind fun l => match l with
    | [] => none
    | x :: r => if x ≠ [] ∧ ((x :: r).all fun y => y.length == x.length && y.all fun z => decide (0 ≤ z) && decide (z < 1000000)) = true ∧ (sortU (x :: r)).length < 63 then some (.list ((sortU (x :: r)).map fun y => (PyData.tuple (y.map PyData.int) : D))) else none := rfl
  rw [e, evD, allTups_tb, Option.bind_some]
  have so := L.sort
  have al : ∀ y ∈ (evB n f s).map (zsB n f s), (y.length == 4 && y.all fun z => decide (0 ≤ z) && decide (z < 1000000)) = true := fun y hy => by
    obtain ⟨b, hb, rfl⟩ := List.mem_map.mp hy
    exact zs_ok h1 hn (L.sub b hb)
  have nm : (evB n f s).map (zsB n f s) ≠ [] := fun z => ne (List.map_eq_nil_iff.mp z)
  cases q : (evB n f s).map (zsB n f s) with
  | nil => exact absurd q nm
  | cons x r =>
    rw [q] at so al
    have x4 : x.length = 4 := by
      have := al x List.mem_cons_self
      simp only [Bool.and_eq_true, beq_iff_eq] at this
      exact this.1
    have c : x ≠ [] ∧ ((x :: r).all fun y => y.length == x.length && y.all fun z => decide (0 ≤ z) && decide (z < 1000000)) = true ∧ (sortU (x :: r)).length < 63 := by
      refine ⟨fun z => (by rw [z] at x4; cases x4), ?_, ?_⟩
      · rw [List.all_eq_true, x4]
        exact al
      · rw [so, List.length_map]
        have := bs_len n f s
        omega
    show (if _ then _ else _) = _
    rw [if_pos c, so, List.map_map]; rfl
/-! ### the loop over the lots -/
abbrev lotStep : MS := sq (asg 12 (blt bLen (consA (lc [18] (.nm 18) (iterS (var 3)) (tru (bin gLt (var 18) (var 10))) (var 18)) nilA)))
    (drp (appE (var 2) (tupE (consA (var 12) (consA (bin gSub (var 10) (var 12)) (consA (bin gSub (var 11) (var 12)) (consA (bin gAdd (bin gSub (bin gSub (var 1) (var 10)) (var 11)) (var 12)) nilA)))))))
abbrev lsA (P : D) (n f s k : Nat) (x3 x12 : Option D) : Ls := [some P, some (.int n), some (mref k), x3, none, none, none, none, none, none, some (.int f), some (.int s), x12, none, none, none, none, none, none, none]
theorem lot_step {P : D} {n f s : Nat} (hn : n ≤ 60) {st : Store} {l : List Nat} {ds : List D} {x12 : Option D} (hb : both f l ∈ bs n f s) (hl : l.length ≤ 100) (hd : ds.length < 16777216) :
    lotStep (lsA P n f s st.length (some (lotD l)) x12) (st ++ [some (.list ds)]) = .ok (.nx (lsA P n f s st.length (some (lotD l)) (some (.int (both f l : Nat))))) (st ++ [some (.list (ds ++ [(tb n f s (both f l)).D]))]) := by
  have hlc := lc_run (vs := [18]) (i := 18) (it := iterS (var 3)) (t := tru (bin gLt (var 18) (var 10))) (e := var 18) (ls := lsA P n f s st.length (some (lotD l)) x12) (st := st ++ [some (.list ds)]) (st1 := st ++ [some (.list ds)])
    l (fun i => PyData.int (i : Nat)) (fun i => PyData.int (i : Nat)) (fun i => decide (i < f)) (run_iterT run_var) (by omega) fun i _ => ⟨run_tru (x := .bool (decide (i < f))) (run_bin (x := .int (i : Nat)) (y := .int f) run_var run_var (by
      rw [rd_int, rd_int, gLt_int]; congr 2; exact decide_eq_decide.mpr Int.ofNat_lt)) rfl, fun _ => rfl⟩
  have a1 : asg 12 (blt bLen (consA (lc [18] (.nm 18) (iterS (var 3)) (tru (bin gLt (var 18) (var 10))) (var 18)) nilA)) (lsA P n f s st.length (some (lotD l)) x12) (st ++ [some (.list ds)]) = .ok (.nx (lsA P n f s st.length (some (lotD l)) (some (.int (both f l : Nat))))) (st ++ [some (.list ds)]) :=
    run_asg (d := .int (both f l : Nat)) (run_blt (run_one hlc) (by show some (PyData.int _) = _; rw [List.length_map]; rfl))
  refine run_sq a1 (run_drp (d := .none) ?_)
  rw [mem_bs] at hb
  generalize both f l = b at hb ⊢
  have x1 : (f : Int) - (b : Int) = ((f - b : Nat) : Int) := by omega
  have x2 : (s : Int) - (b : Int) = ((s - b : Nat) : Int) := by omega
  have x3 : (n : Int) - (f : Int) - (s : Int) + (b : Int) = ((n + b - f - s : Nat) : Int) := by omega
  have tup : tupE (consA (var 12) (consA (bin gSub (var 10) (var 12)) (consA (bin gSub (var 11) (var 12)) (consA (bin gAdd (bin gSub (bin gSub (var 1) (var 10)) (var 11)) (var 12)) nilA)))) (lsA P n f s st.length (some (lotD l)) (some (.int b))) (st ++ [some (.list ds)]) = .ok (tb n f s b).D (st ++ [some (.list ds)]) :=
    run_tup (ds := [.int (b : Nat), .int (f - b : Nat), .int (s - b : Nat), .int (n + b - f - s : Nat)]) (run_cons run_var (run_cons (run_bin (x := .int f) (y := .int b) run_var run_var (congrArg (fun z => some (PyData.int z)) x1))
      (run_cons (run_bin (x := .int s) (y := .int b) run_var run_var (congrArg (fun z => some (PyData.int z)) x2)) (run_one (run_bin (x := .int ((n : Int) - f - s)) (y := .int b) (run_bin (x := .int ((n : Int) - f)) (y := .int s) (run_bin (x := .int n) (y := .int f) run_var run_var rfl) run_var rfl) run_var (congrArg (fun z => some (PyData.int z)) x3))))))
  unfold appE
  rw [run_var, bind_run, tup, bind_run, getM_pot]
  have c : okD 40 (tb n f s b).D = true ∧ ds.length < 16777216 := ⟨ok_D _, hd⟩
  show (if okD 40 (tb n f s b).D = true ∧ ds.length < 16777216 then Res.ok PyData.none ((st ++ [some (PyData.list ds)]).set st.length (some (PyData.list (ds ++ [(tb n f s b).D])))) else .stuck) = _
  rw [if_pos c, set_pot]
theorem lots_loop {P : D} {n f s : Nat} (h2 : n ≤ 8) (hs : s ≤ n) (L : Lots n f s) (st : Store) :
    ∃ x3 x12, forS (.nm 3) (iterS (app m__law_lots (consA (var 1) (consA (var 11) nilA)))) lotStep (lsA P n f s st.length none none) (st ++ [some (.list [])]) = .ok (.nx (lsA P n f s st.length x3 x12)) (st ++ [some (.list (evD n f s))]) := by
  have it : iterS (app m__law_lots (consA (var 1) (consA (var 11) nilA))) (lsA P n f s st.length none none) (st ++ [some (.list [])]) = .ok ((lots n s).map lotD) (st ++ [some (.list [])]) :=
    run_iterS (run_app (run_cons run_var (run_one run_var)) (ev_lots (by omega) _))
  have big : (lots n s).length ≤ 2 ^ 8 := by
    have a := List.length_filter_le (fun l : List Nat => l.length == s) (lotsF s n)
    have b := lotsF_len s n
    have c : 2 ^ n ≤ 2 ^ 8 := Nat.pow_le_pow_right (by decide) h2
    unfold lots; omega
  have sub : ∀ l ∈ lots n s, both f l ∈ bs n f s := fun l hl => L.sub _ (List.mem_map_of_mem hl)
  have len : ∀ l ∈ lots n s, l.length ≤ 100 := fun l hl => by
    have := lotsF_mem s n l (List.mem_filter.mp hl).1
    omega
  obtain ⟨ls', st', h, ⟨pre, x3, x12, e1, e2, e3⟩⟩ := forL_run (g := .nm 3) (body := lotStep) lotD (fun r ls st' => ∃ pre x3 x12, pre ++ r = lots n s ∧ ls = lsA P n f s st.length x3 x12 ∧ st' = st ++ [some (.list (pre.map fun l => (tb n f s (both f l)).D))])
    (fun l r ls st' ⟨pre, x3, x12, e1, e2, e3⟩ => by
      subst e2 e3
      have hm : l ∈ lots n s := by rw [← e1]; simp
      have hp : pre.length ≤ 2 ^ 8 := by
        have := congrArg List.length e1
        rw [List.length_append] at this
        omega
      refine ⟨lsA P n f s st.length (some (lotD l)) x12, _, _, rfl, lot_step (by omega) (sub l hm) (len l hm) (by rw [List.length_map]; omega), pre ++ [l], _, _, by rw [List.append_assoc]; exact e1, rfl, ?_⟩
      rw [List.map_append]; rfl) (lots n s) (lsA P n f s st.length none none) (st ++ [some (.list [])]) ⟨[], none, none, rfl, rfl, rfl⟩
  refine ⟨x3, x12, ?_⟩
  unfold forS
  rw [it, bind_run, h, e2, e3]
  rw [List.append_nil] at e1
  rw [e1, evD, evB, List.map_map]; rfl
end MP.K69

set_option Elab.async false
set_option linter.all false
set_option maxRecDepth 100000
set_option maxHeartbeats 4000000
set_option exponentiation.threshold 100000
/-! P69h: the checks over the tables. Own work. -/
namespace MP
open PySem
theorem rd_ok {st : Store} {d : D} {n : Nat} (h : okD n d = true) : rd st d = d := by
  cases d with
  | dict kvs => simp [okD] at h
  | _ => rfl
theorem bRepr_ok {d : D} (h : Sho d) : bRepr [d] = some (.str d.shown) := by
  have r := reprD_ok h
  have o := h.1
  cases d with
  | dict kvs => simp [okD] at o
  | _ => exact r
theorem run_reprNe {a b : ME} {ls : Ls} {st st1 st2 : Store} {d : D} (h1 : a ls st = .ok d st1) (h2 : b ls st1 = .ok d st2) (h : Sho d) : tru (bin gNe (blt bRepr (consA a nilA)) (blt bRepr (consA b nilA))) ls st = .ok false st2 :=
  run_tru (x := .bool false) (run_bin (x := .str d.shown) (y := .str d.shown) (run_blt (run_one h1) (by rw [List.map_cons, List.map_nil, rd_ok h.1, bRepr_ok h])) (run_blt (run_one h2) (by rw [List.map_cons, List.map_nil, rd_ok h.1, bRepr_ok h])) (gNe_str _)) rfl
theorem run_reprEq {a b : ME} {ls : Ls} {st st1 st2 : Store} {d : D} (h1 : a ls st = .ok d st1) (h2 : b ls st1 = .ok d st2) (h : Sho d) : bin gEq (blt bRepr (consA a nilA)) (blt bRepr (consA b nilA)) ls st = .ok (.bool true) st2 :=
  run_bin (x := .str d.shown) (y := .str d.shown) (run_blt (run_one h1) (by rw [List.map_cons, List.map_nil, rd_ok h.1, bRepr_ok h])) (run_blt (run_one h2) (by rw [List.map_cons, List.map_nil, rd_ok h.1, bRepr_ok h])) (gEq_str _)
/-- may be shown: of depth k, of weight w -/
def Sh (w k : Nat) (d : D) : Prop := okD k d = true ∧ d.showable = true ∧ wt d ≤ w
theorem okD_mono : ∀ (k : Nat) (d : D) (l : Nat), k ≤ l → okD k d = true → okD l d = true
  | _, .none, _, _, _ => by simp [okD]
  | _, .bool _, _, _, _ => by simp [okD]
  | _, .int _, _, _, _ => by simp [okD]
  | _, .str _, _, _, _ => by simp [okD]
  | 0, .list xs, _, _, h => by simp [okD] at h
  | 0, .tuple xs, _, _, h => by simp [okD] at h
  | k + 1, .list xs, 0, hl, _ => by omega
  | k + 1, .tuple xs, 0, hl, _ => by omega
  | k + 1, .list xs, l + 1, hl, h => by
    simp only [okD, List.all_eq_true] at h ⊢
    exact fun x hx => okD_mono k x l (by omega) (h x hx)
  | k + 1, .tuple xs, l + 1, hl, h => by
    simp only [okD, List.all_eq_true] at h ⊢
    exact fun x hx => okD_mono k x l (by omega) (h x hx)
  | _, .dict _, _, _, h => by simp [okD] at h
theorem Sh.sho {w k : Nat} {d : D} (h : Sh w k d) (hw : w ≤ 16777216) (hk : k ≤ 40) : Sho d := ⟨okD_mono k d 40 hk h.1, h.2.1, Nat.le_trans h.2.2 hw⟩
theorem Sh.mono {w k w' k' : Nat} {d : D} (h : Sh w k d) (hw : w ≤ w') (hk : k ≤ k') : Sh w' k' d := ⟨okD_mono k d k' hk h.1, h.2.1, Nat.le_trans h.2.2 hw⟩
theorem wtAll_le {w : Nat} : ∀ ds : List D, (∀ d ∈ ds, wt d ≤ w) → wtAll ds ≤ ds.length * (w + 2)
  | [], _ => by simp [wtAll]
  | d :: ds, h => by
    have a := h d List.mem_cons_self
    have b := wtAll_le ds fun e he => h e (List.mem_cons_of_mem _ he)
    rw [wtAll, List.length_cons, Nat.succ_mul]; omega
theorem showableAll_ok : ∀ ds : List D, (∀ d ∈ ds, d.showable = true) → PyData.showableAll ds = true
  | [], _ => by simp [PyData.showableAll]
  | d :: ds, h => by
    rw [PyData.showableAll, h d List.mem_cons_self, showableAll_ok ds fun e he => h e (List.mem_cons_of_mem _ he)]; rfl
theorem sh_tup {w k : Nat} {ds : List D} (h : ∀ d ∈ ds, Sh w k d) : Sh (3 + ds.length * (w + 2)) (k + 1) (.tuple ds) := by
  refine ⟨?_, ?_, ?_⟩
  · simp only [okD, List.all_eq_true]
    exact fun d hd => (h d hd).1
  · simp only [PyData.showable]
    exact showableAll_ok ds fun d hd => (h d hd).2.1
  · have := wtAll_le ds fun d hd => (h d hd).2.2
    simp only [wt]; omega
theorem sh_lst {w k : Nat} {ds : List D} (h : ∀ d ∈ ds, Sh w k d) : Sh (3 + ds.length * (w + 2)) (k + 1) (.list ds) := by
  refine ⟨?_, ?_, ?_⟩
  · simp only [okD, List.all_eq_true]
    exact fun d hd => (h d hd).1
  · simp only [PyData.showable]
    exact showableAll_ok ds fun d hd => (h d hd).2.1
  · have := wtAll_le ds fun d hd => (h d hd).2.2
    simp only [wt]; omega
theorem sh_int {i : Int} (h : i.natAbs < 2 ^ 1920) : Sh 2000 0 (.int i) := ⟨by simp [okD], showable_int h, by simp [wt]⟩
theorem sh_none : Sh 2000 0 .none := ⟨by simp [okD], by simp [PyData.showable], by simp [wt]⟩
theorem sh_frac {r : Rat} {k : Nat} (h : Sz k r) (hk : k ≤ 1920) : Sh 5000 1 (frac r) := by
  have a := Nat.lt_of_lt_of_le h.num (Nat.pow_le_pow_right (by decide) hk)
  have b := Nat.lt_of_lt_of_le h.den (Nat.pow_le_pow_right (by decide) hk)
  refine (sh_tup (w := 2000) (k := 0) (ds := [.int r.num, .int (r.den : Int)]) fun d hd => ?_).mono (by simp) (by decide)
  rcases List.mem_cons.mp hd with rfl | hd
  · exact sh_int a
  · rw [List.mem_singleton.mp hd]
    exact sh_int (by rw [Int.natAbs_natCast]; exact b)
end MP
namespace MP.K69
open PySem MP
theorem sh_Q4 {t : Q4} (h : t.n ≤ 60) : Sh 9000 1 t.D := by
  unfold Q4.n at h
  refine (sh_tup (w := 2000) (k := 0) (ds := t.zs.map PyData.int) fun d hd => ?_).mono (by simp [Q4.zs]) (by decide)
  obtain ⟨z, hz, rfl⟩ := List.mem_map.mp hd
  have : z.natAbs < 2 ^ 6 := by
    unfold Q4.zs at hz
    simp only [List.mem_cons, List.not_mem_nil, or_false] at hz
    rcases hz with rfl | rfl | rfl | rfl <;> omega
  exact sh_int (Nat.lt_of_lt_of_le this (Nat.pow_le_pow_right (by decide) (by decide)))
theorem sh_tabs {n f s : Nat} (h1 : 1 ≤ n) (h2 : n ≤ 8) : Sho (.tuple (tabs n f s)) := by
  have l : (tabs n f s).length ≤ 9 + 1000 := by
    unfold tabs bs
    rw [List.length_map, List.length_range']
    by_cases q : min f s ≤ 1000
    · omega
    · omega
  refine (sh_tup (w := 9000) (k := 1) (ds := tabs n f s) fun d hd => ?_).sho (by omega) (by decide)
  obtain ⟨b, hb, rfl⟩ := List.mem_map.mp hd
  exact sh_Q4 (by rw [(tb_n hb).1]; omega)
end MP.K69

set_option Elab.async false
set_option linter.all false
set_option maxRecDepth 100000
set_option maxHeartbeats 4000000
set_option exponentiation.threshold 100000
/-! P69i: the steps of the law's first half. Own work. -/
namespace MP.K69
open PySem MP
abbrev pw0 : MS := asg 1 (bin gAdd (cst (.int 1)) (app m__law_take (consA (var 0) (consA (cst (.int 8)) nilA))))
abbrev pw1 : MS := asgT (.tp (.cons (.nm 10) (.cons (.nm 11) .nil))) (tupE (consA (app m__law_take (consA (var 0) (consA (bin gAdd (var 1) (cst (.int 1))) nilA))) (consA (app m__law_take (consA (var 0) (consA (bin gAdd (var 1) (cst (.int 1))) nilA))) nilA)))
abbrev pw2 : MS := asg 2 (mutE nilA)
abbrev pw3 : MS := forS (.nm 3) (iterS (app m__law_lots (consA (var 1) (consA (var 11) nilA)))) (sq (asg 12 (blt bLen (consA (lc [ 18 ] (.nm 18) (iterS (var 3)) (tru (bin gLt (var 18) (var 10))) (var 18)) nilA))) (drp (appE (var 2) (tupE (consA (var 12) (consA (bin gSub (var 10) (var 12)) (consA (bin gSub (var 11) (var 12)) (consA (bin gAdd (bin gSub (bin gSub (var 1) (var 10)) (var 11)) (var 12)) nilA))))))))
abbrev pw4 : MS := frz 2
abbrev pw5 : MS := asg 4 (una gSortSet (var 2))
abbrev pw6 : MS := iff (orT (tru (bin gNe (blt bRepr (consA (app m_tables_of (consA (tupE (consA (var 1) (consA (var 10) (consA (var 11) nilA)))) nilA)) nilA)) (blt bRepr (consA (blt bTuple (consA (var 4) nilA)) nilA)))) (tru (bin gIsNot (app m_are_margins (consA (tupE (consA (var 1) (consA (var 10) (consA (var 11) nilA)))) nilA)) (cst (.bool true))))) (retS (cst (.bool false))) skp
abbrev pw7 : MS := forS (.nm 5) (iterS (var 4)) (sq (asg 13 (bin gCount (var 2) (var 5))) (sq (par2 16 17 (consA (blt bLen (consA (lc [ 19 ] (.nm 19) (iterS (var 2)) (tru (bin gGe (bin gIdx (var 19) (cst (.int 0))) (bin gIdx (var 5) (cst (.int 0))))) (cst (.int 1))) nilA)) (consA (blt bLen (consA (lc [ 19 ] (.nm 19) (iterS (var 2)) (tru (bin gLe (bin gIdx (var 19) (cst (.int 0))) (bin gIdx (var 5) (cst (.int 0))))) (cst (.int 1))) nilA)) nilA))) (sq (asg 14 (blt bLen (consA (lc [ 19 ] (.nm 19) (iterS (var 2)) (tru (bin gLe (bin gCount (var 2) (var 19)) (var 13))) (cst (.int 1))) nilA))) (sq (asg 15 (tupE (consA (var 13) (consA (app m__law_part (consA (var 13) (consA (blt bLen (consA (var 2) nilA)) nilA))) (consA (app m__law_part (consA (var 16) (consA (blt bLen (consA (var 2) nilA)) nilA))) (consA (app m__law_part (consA (var 17) (consA (blt bLen (consA (var 2) nilA)) nilA))) (consA (app m__law_part (consA (var 14) (consA (blt bLen (consA (var 2) nilA)) nilA))) nilA))))))) (sq (iff (tru (bin gNe (blt bRepr (consA (tupE (consA (app m_ways_of (consA (var 5) nilA)) (consA (app m_chance_of (consA (var 5) nilA)) (consA (app m_share_above (consA (var 5) nilA)) (consA (app m_share_below (consA (var 5) nilA)) (consA (app m_share_apart (consA (var 5) nilA)) nilA)))))) nilA)) (blt bRepr (consA (var 15) nilA)))) (retS (cst (.bool false))) skp) (iff (tru (bin gNe (blt bRepr (consA (tupE (consA (app m_margins_of (consA (var 5) nilA)) (consA (app m_alike_of (consA (var 5) nilA)) (consA (app m_kappa_of (consA (var 5) nilA)) nilA)))) nilA)) (blt bRepr (consA (tupE (consA (tupE (consA (var 1) (consA (var 10) (consA (var 11) nilA)))) (consA (app m__law_part (consA (bin gAdd (bin gIdx (var 5) (cst (.int 0))) (bin gIdx (var 5) (cst (.int 3)))) (consA (var 1) nilA))) (consA (app m__law_kappa (consA (var 5) nilA)) nilA)))) nilA)))) (retS (cst (.bool false))) skp))))))
abbrev pw8 : MS := asg 6 (lc [ 5 ] (.nm 5) (iterS (var 2)) yesT (app m_kappa_of (consA (var 5) nilA)))
abbrev pw9 : MS := iff (orT (tru (bin gNe (app m__law_sum (consA (lc [ 5 ] (.nm 5) (iterS (var 2)) yesT (tupE (consA (bin gIdx (var 5) (cst (.int 0))) (consA (cst (.int 1)) nilA)))) nilA)) (app m__law_part (consA (bin gMul (bin gMul (var 10) (var 11)) (blt bLen (consA (var 2) nilA))) (consA (var 1) nilA))))) (tru (bin gIsNot (app m_is_table (consA (bin gIdx (var 2) (cst (.int 0))) nilA)) (cst (.bool true))))) (retS (cst (.bool false))) skp
abbrev pw10 : MS := iff (orT (andT (tru (bin gIn (cst .none) (var 6))) (tru (bin gNe (bin gCount (var 6) (cst .none)) (blt bLen (consA (var 6) nilA))))) (andT (tru (bin gNotIn (cst .none) (var 6))) (tru (bin gNe (app m__law_sum (consA (var 6) nilA)) (tupE (consA (cst (.int 0)) (consA (cst (.int 1)) nilA))))))) (retS (cst (.bool false))) skp
abbrev pw11 : MS := asg 7 (lc [ 5 ] (.nm 5) (iterS (var 4)) yesT (app m_alike_of (consA (var 5) nilA)))
abbrev pw12 : MS := iff (tru (bin gNe (app m_alike_between (consA (tupE (consA (var 1) (consA (var 10) (consA (var 11) nilA)))) nilA)) (tupE (consA (tupE (consA (bin gIdx (var 7) (cst (.int 0))) (consA (bin gIdx (var 4) (cst (.int 0))) nilA))) (consA (tupE (consA (bin gIdx (var 7) (una gNeg (cst (.int 1)))) (consA (bin gIdx (var 4) (una gNeg (cst (.int 1)))) nilA))) nilA))))) (retS (cst (.bool false))) skp
abbrev pw13 : MS := iff (orT (notT (tru (app m__law_is_share_fair (consA (blt bLen (consA (var 2) nilA)) (consA (lc [ 19 ] (.nm 19) (iterS (var 2)) yesT (app m_share_above (consA (var 19) nilA))) nilA))))) (notT (tru (app m__law_is_share_fair (consA (blt bLen (consA (var 2) nilA)) (consA (lc [ 19 ] (.nm 19) (iterS (var 2)) yesT (app m_share_apart (consA (var 19) nilA))) nilA)))))) (retS (cst (.bool false))) skp
abbrev pw14 : MS := asg 8 (app m__law_part (consA (app m__law_take (consA (var 0) (consA (cst (.int 21)) nilA))) (consA (cst (.int 20)) nilA)))
abbrev pw15 : MS := asg 9 (lc [ 5 ] (.nm 5) (iterS (var 4)) (notT (tru (app m__law_less (consA (var 8) (consA (app m_share_above (consA (var 5) nilA)) nilA))))) (bin gIdx (var 5) (cst (.int 0))))
abbrev pw16 : MS := retS (bin gEq (blt bRepr (consA (app m_needed (consA (tupE (consA (var 1) (consA (var 10) (consA (var 11) nilA)))) (consA (var 8) nilA))) nilA)) (blt bRepr (consA (ifE (tru (bin gNe (var 9) (lstE nilA))) (bin gIdx (var 9) (cst (.int 0))) (cst .none)) nilA)))
theorem ways_split : m__law_are_ways_right = fnM false 20 (sq pw0 (sq pw1 (sq pw2 (sq pw3 (sq pw4 (sq pw5 (sq pw6 (sq pw7 (sq pw8 (sq pw9 (sq pw10 (sq pw11 (sq pw12 (sq pw13 (sq pw14 (sq pw15 pw16)))))))))))))))) := rfl
abbrev tabStep : MS := (sq (asg 13 (bin gCount (var 2) (var 5))) (sq (par2 16 17 (consA (blt bLen (consA (lc [ 19 ] (.nm 19) (iterS (var 2)) (tru (bin gGe (bin gIdx (var 19) (cst (.int 0))) (bin gIdx (var 5) (cst (.int 0))))) (cst (.int 1))) nilA)) (consA (blt bLen (consA (lc [ 19 ] (.nm 19) (iterS (var 2)) (tru (bin gLe (bin gIdx (var 19) (cst (.int 0))) (bin gIdx (var 5) (cst (.int 0))))) (cst (.int 1))) nilA)) nilA))) (sq (asg 14 (blt bLen (consA (lc [ 19 ] (.nm 19) (iterS (var 2)) (tru (bin gLe (bin gCount (var 2) (var 19)) (var 13))) (cst (.int 1))) nilA))) (sq (asg 15 (tupE (consA (var 13) (consA (app m__law_part (consA (var 13) (consA (blt bLen (consA (var 2) nilA)) nilA))) (consA (app m__law_part (consA (var 16) (consA (blt bLen (consA (var 2) nilA)) nilA))) (consA (app m__law_part (consA (var 17) (consA (blt bLen (consA (var 2) nilA)) nilA))) (consA (app m__law_part (consA (var 14) (consA (blt bLen (consA (var 2) nilA)) nilA))) nilA))))))) (sq (iff (tru (bin gNe (blt bRepr (consA (tupE (consA (app m_ways_of (consA (var 5) nilA)) (consA (app m_chance_of (consA (var 5) nilA)) (consA (app m_share_above (consA (var 5) nilA)) (consA (app m_share_below (consA (var 5) nilA)) (consA (app m_share_apart (consA (var 5) nilA)) nilA)))))) nilA)) (blt bRepr (consA (var 15) nilA)))) (retS (cst (.bool false))) skp) (iff (tru (bin gNe (blt bRepr (consA (tupE (consA (app m_margins_of (consA (var 5) nilA)) (consA (app m_alike_of (consA (var 5) nilA)) (consA (app m_kappa_of (consA (var 5) nilA)) nilA)))) nilA)) (blt bRepr (consA (tupE (consA (tupE (consA (var 1) (consA (var 10) (consA (var 11) nilA)))) (consA (app m__law_part (consA (bin gAdd (bin gIdx (var 5) (cst (.int 0))) (bin gIdx (var 5) (cst (.int 3)))) (consA (var 1) nilA))) (consA (app m__law_kappa (consA (var 5) nilA)) nilA)))) nilA)))) (retS (cst (.bool false))) skp))))))
abbrev lsC (P : D) (n f s : Nat) (x3 x5 x6 x7 x8 x9 x12 x13 x14 x15 x16 x17 x18 x19 : Option D) : Ls := [some P, some (.int n), some (.list (evD n f s)), x3, some (.list (tabs n f s)), x5, x6, x7, x8, x9, some (.int f), some (.int s), x12, x13, x14, x15, x16, x17, x18, x19]
theorem ev_len {n f s : Nat} (h2 : n ≤ 8) (L : Lots n f s) : (evB n f s).length ≤ 256 := by
  rw [L.len]
  exact Nat.le_trans (ch_le n s) (Nat.pow_le_pow_right (n := 2) (by decide) h2)
theorem len_lc {n f s : Nat} (h2 : n ≤ 8) (L : Lots n f s) {ls : Ls} {st : Store} {T : MT} {p : Nat → Bool} (hv : ls[2]? = some (some (.list (evD n f s)))) (hT : ∀ b ∈ evB n f s, T ((wipeL ls [19]).set 19 (some (tb n f s b).D)) st = .ok (p b) st) :
    blt bLen (consA (lc [19] (.nm 19) (iterS (var 2)) T (cst (.int 1))) nilA) ls st = .ok (.int (wsum n f s p : Nat)) st := by
  have e := ev_len h2 L
  have hlc := lc_run (vs := [19]) (i := 19) (it := iterS (var 2)) (t := T) (e := cst (.int 1)) (ls := ls) (st := st) (st1 := st) (evB n f s) (fun b => (tb n f s b).D) (fun _ => PyData.int 1) p (run_iterS (run_var hv)) (by omega) fun b hb => ⟨hT b hb, fun _ => rfl⟩
  refine run_blt (run_one hlc) ?_
  show some (PyData.int _) = _
  rw [List.length_map, ← List.countP_eq_length_filter, countP_ways L]
def dueD (n f s b : Nat) : D := .tuple [.int (wy n f s b : Nat), frac (Rat.divInt (wy n f s b : Nat) (ch n s : Nat)), frac (Rat.divInt (wsum n f s (fun c => decide (b ≤ c)) : Nat) (ch n s : Nat)), frac (Rat.divInt (wsum n f s (fun c => decide (c ≤ b)) : Nat) (ch n s : Nat)), frac (Rat.divInt (wsum n f s (fun c => decide (wy n f s c ≤ wy n f s b)) : Nat) (ch n s : Nat))]
theorem ch_q {n s : Nat} (h2 : n ≤ 60) (hs : s ≤ n) : ((ch n s : Nat) : Int) ≠ 0 ∧ ((ch n s : Nat) : Int).natAbs < 2 ^ 61 := by
  have a := ch_pos n s hs
  have b := ch_le n s
  have c : 2 ^ n ≤ 2 ^ 60 := Nat.pow_le_pow_right (by decide) h2
  rw [Int.natAbs_natCast]; omega
theorem wy_wsum {n f s b : Nat} : wy n f s b = sumW [tb n f s b] := by simp [sumW, wy]
theorem wsum_lt {n f s : Nat} (hn : n ≤ 60) (p : Nat → Bool) : wsum n f s p < 2 ^ 200 := by
  refine sumW_lt (fun x hx => ?_) ?_
  · obtain ⟨c, hc, rfl⟩ := List.mem_map.mp hx
    rw [(tb_n (List.mem_filter.mp hc).1).1]; exact hn
  · rw [List.length_map]
    have a := List.length_filter_le p (bs n f s)
    unfold bs at a
    rw [List.length_range'] at a
    by_cases q : f ≤ 60
    · unfold bs; omega
    · by_cases q2 : s ≤ 60
      · unfold bs; omega
      · have : min f s + 1 - (f + s - n) ≤ n + 1 := by omega
        unfold bs; omega
theorem wy_lt {n f s b : Nat} (hn : n ≤ 60) (hb : b ∈ bs n f s) : wy n f s b < 2 ^ 200 := by
  rw [wy_wsum]
  exact sumW_lt (fun x hx => by rw [List.mem_singleton.mp hx, (tb_n hb).1]; exact hn) (by simp)
theorem sh_share {n s p : Nat} (hn : n ≤ 60) (hs : s ≤ n) (hp : p < 2 ^ 200) : Sh 5000 1 (frac (Rat.divInt (p : Nat) (ch n s : Nat))) := by
  obtain ⟨a, b⟩ := ch_q hn hs
  exact sh_frac (sz_div (k := 200) a (by rw [Int.natAbs_natCast]; exact hp) (Nat.lt_trans b (by decide))) (by decide)
theorem sho_due {n f s b : Nat} (hn : n ≤ 60) (hs : s ≤ n) (hb : b ∈ bs n f s) : Sho (dueD n f s b) := by
  have w := wy_lt hn hb
  refine (sh_tup (w := 5000) (k := 1) fun d hd => ?_).sho (by simp) (by decide)
  simp only [List.mem_cons, List.not_mem_nil, or_false] at hd
  rcases hd with rfl | rfl | rfl | rfl | rfl
  · exact (sh_int (by rw [Int.natAbs_natCast]; exact Nat.lt_trans w (Nat.pow_lt_pow_right (by decide) (by decide)))).mono (by decide) (by decide)
  · exact sh_share hn hs w
  · exact sh_share hn hs (wsum_lt hn _)
  · exact sh_share hn hs (wsum_lt hn _)
  · exact sh_share hn hs (wsum_lt hn _)
def twoD (n f s b : Nat) : D := .tuple [mD n f s, frac (al (tb n f s b)), kapD (tb n f s b)]
theorem sho_two {n f s b : Nat} (h1 : 1 ≤ n) (hn : n ≤ 60) (hf : f ≤ n) (hs : s ≤ n) (hb : b ∈ bs n f s) : Sho (twoD n f s b) := by
  have ok := tb_ok h1 hn hb
  refine (sh_tup (w := 7000) (k := 1) fun d hd => ?_).sho (by simp) (by decide)
  simp only [List.mem_cons, List.not_mem_nil, or_false] at hd
  rcases hd with rfl | rfl | rfl
  · refine (sh_tup (w := 2000) (k := 0) fun d hd => ?_).mono (by simp) (by decide)
    simp only [List.mem_cons, List.not_mem_nil, or_false] at hd
    have q : ∀ z : Nat, z ≤ 60 → Sh 2000 0 (.int (z : Nat)) := fun z hz => sh_int (by rw [Int.natAbs_natCast]; exact Nat.lt_of_le_of_lt hz (Nat.lt_of_lt_of_le (show 60 < 2 ^ 6 by decide) (Nat.pow_le_pow_right (by decide) (by decide))))
    rcases hd with rfl | rfl | rfl
    · exact q n hn
    · exact q f (by omega)
    · exact q s (by omega)
  · exact (sh_frac (sz_al ok) (by decide)).mono (by decide) (by decide)
  · unfold kapD
    split
    · exact sh_none.mono (by decide) (by decide)
    · rename_i q
      refine (sh_frac (k := 20) (sz_div (by omega) ?_ ?_) (by decide)).mono (by decide) (by decide)
      · have a := km_abs ok
        have l := ok.2
        have p : (tb n f s b).a + (tb n f s b).d ≤ 60 := by unfold Q4.n at l; omega
        have m := prod_le l p
        have e : (((tb n f s b).n : Int) * (((tb n f s b).a : Int) + (tb n f s b).d)) = (((tb n f s b).n * ((tb n f s b).a + (tb n f s b).d) : Nat) : Int) := by rw [Int.natCast_mul, Int.natCast_add]
        rw [e]
        generalize (tb n f s b).n * ((tb n f s b).a + (tb n f s b).d) = z at m
        omega
      · have a := km_abs ok
        have c := (nn_abs ok).2
        omega
theorem share_eq {n f s b : Nat} (hb : b ∈ bs n f s) (p : Nat → Bool) : frac (wr (sel (tb n f s b) p) (tb n f s b)) = frac (Rat.divInt (wsum n f s p : Nat) (ch n s : Nat)) := by rw [wr_tb hb]
theorem tab_step {P : D} {n f s b : Nat} (h1 : 1 ≤ n) (h2 : n ≤ 8) (hf : f ≤ n) (hs : s ≤ n) (L : Lots n f s) (hb : b ∈ bs n f s) (st : Store) (x3 x6 x7 x8 x9 x12 x13 x14 x15 x16 x17 x18 x19 : Option D) :
    tabStep (lsC P n f s x3 (some (tb n f s b).D) x6 x7 x8 x9 x12 x13 x14 x15 x16 x17 x18 x19) st = .ok (.nx (lsC P n f s x3 (some (tb n f s b).D) x6 x7 x8 x9 x12 (some (.int (wy n f s b : Nat))) (some (.int (wsum n f s (fun c => decide (wy n f s c ≤ wy n f s b)) : Nat))) (some (dueD n f s b)) (some (.int (wsum n f s (fun c => decide (b ≤ c)) : Nat))) (some (.int (wsum n f s (fun c => decide (c ≤ b)) : Nat))) x18 x19)) st := by
  have ok := tb_ok h1 (show n ≤ 60 by omega) hb
  obtain ⟨e1, e2, e3⟩ := tb_n hb
  have hc := L.cnt b hb
  have cnt : ∀ c ∈ bs n f s, gCount (.list (evD n f s)) (tb n f s c).D = some (.int (wy n f s c : Nat)) := fun c hc => by rw [count_tb, L.cnt c hc]
  have pos : ∀ c : Nat, gIdx (tb n f s c).D (.int 0) = some (.int (c : Nat)) := fun c => rfl
  obtain ⟨q0, q1⟩ := ch_q (show n ≤ 60 by omega) hs
  have q2 : ((ch n s : Nat) : Int).natAbs < 2 ^ 4900 := Nat.lt_trans q1 (Nat.pow_lt_pow_right (by decide) (by decide))
  have pr : ∀ z : Nat, m__law_part [.int (z : Nat), .int (ch n s : Nat)] st = .ok (frac (Rat.divInt (z : Nat) (ch n s : Nat))) st := fun z => lpart _ _ st q0 q2
  have lenE : ∀ {ls : Ls}, ls[2]? = some (some (.list (evD n f s))) → blt bLen (consA (var 2) nilA) ls st = .ok (.int (ch n s : Nat)) st := fun {ls} hv => run_blt (run_one (run_var hv)) (by show some (PyData.int _) = _; rw [evD, List.length_map, L.len])
  refine run_sq (ls1 := lsC P n f s x3 (some (tb n f s b).D) x6 x7 x8 x9 x12 (some (.int (wy n f s b : Nat))) x14 x15 x16 x17 x18 x19) (run_asg (run_bin (x := .list (evD n f s)) (y := (tb n f s b).D) run_var run_var (cnt b hb)))
    (run_sq (ls1 := lsC P n f s x3 (some (tb n f s b).D) x6 x7 x8 x9 x12 (some (.int (wy n f s b : Nat))) x14 x15 (some (.int (wsum n f s (fun c => decide (b ≤ c)) : Nat))) (some (.int (wsum n f s (fun c => decide (c ≤ b)) : Nat))) x18 x19) (run_par2 (run_cons (len_lc h2 L rfl fun c hc => ?_) (run_one (len_lc h2 L rfl fun c hc => ?_))))
    (run_sq (ls1 := lsC P n f s x3 (some (tb n f s b).D) x6 x7 x8 x9 x12 (some (.int (wy n f s b : Nat))) (some (.int (wsum n f s (fun c => decide (wy n f s c ≤ wy n f s b)) : Nat))) x15 (some (.int (wsum n f s (fun c => decide (b ≤ c)) : Nat))) (some (.int (wsum n f s (fun c => decide (c ≤ b)) : Nat))) x18 x19) (run_asg (len_lc h2 L rfl fun c hc => ?_))
    (run_sq (ls1 := lsC P n f s x3 (some (tb n f s b).D) x6 x7 x8 x9 x12 (some (.int (wy n f s b : Nat))) (some (.int (wsum n f s (fun c => decide (wy n f s c ≤ wy n f s b)) : Nat))) (some (dueD n f s b)) (some (.int (wsum n f s (fun c => decide (b ≤ c)) : Nat))) (some (.int (wsum n f s (fun c => decide (c ≤ b)) : Nat))) x18 x19)
      (run_asg (run_tup (run_cons run_var (run_cons (run_app (run_cons run_var (run_one (lenE rfl))) (pr _)) (run_cons (run_app (run_cons run_var (run_one (lenE rfl))) (pr _)) (run_cons (run_app (run_cons run_var (run_one (lenE rfl))) (pr _)) (run_one (run_app (run_cons run_var (run_one (lenE rfl))) (pr _)))))))))
    (run_sq (ls1 := lsC P n f s x3 (some (tb n f s b).D) x6 x7 x8 x9 x12 (some (.int (wy n f s b : Nat))) (some (.int (wsum n f s (fun c => decide (wy n f s c ≤ wy n f s b)) : Nat))) (some (dueD n f s b)) (some (.int (wsum n f s (fun c => decide (b ≤ c)) : Nat))) (some (.int (wsum n f s (fun c => decide (c ≤ b)) : Nat))) x18 x19)
      (st1 := st) (run_iffF (st1 := st) (run_reprNe (st1 := st) (st2 := st) (d := dueD n f s b) ?_ run_var (sho_due (by omega) hs hb)) rfl) (run_iffF (st1 := st) (run_reprNe (st1 := st) (st2 := st) (d := twoD n f s b) ?_ ?_ (sho_two h1 (by omega) hf hs hb)) rfl)))))
  · exact run_tru (x := .bool (decide (b ≤ c))) (run_bin (x := .int (c : Nat)) (y := .int (b : Nat)) (run_bin (x := (tb n f s c).D) (y := .int 0) run_var run_cst (pos c)) (run_bin (x := (tb n f s b).D) (y := .int 0) run_var run_cst (pos b)) (by rw [rd_int, rd_int, gGe_int]; congr 2; exact decide_eq_decide.mpr Int.ofNat_le)) rfl
  · exact run_tru (x := .bool (decide (c ≤ b))) (run_bin (x := .int (c : Nat)) (y := .int (b : Nat)) (run_bin (x := (tb n f s c).D) (y := .int 0) run_var run_cst (pos c)) (run_bin (x := (tb n f s b).D) (y := .int 0) run_var run_cst (pos b)) (by rw [rd_int, rd_int, gLe_int]; congr 2; exact decide_eq_decide.mpr Int.ofNat_le)) rfl
  · exact run_tru (x := .bool (decide (wy n f s c ≤ wy n f s b))) (run_bin (x := .int (wy n f s c : Nat)) (y := .int (wy n f s b : Nat)) (run_bin (x := .list (evD n f s)) (y := (tb n f s c).D) run_var run_var (cnt c (L.sub c hc))) run_var (by rw [rd_int, rd_int, gLe_int]; congr 2; exact decide_eq_decide.mpr Int.ofNat_le)) rfl
  · have c1 := ev_chance_of ok st
    have c2 := ev_share_above ok st
    have c3 := ev_share_below ok st
    have c4 := ev_share_apart ok st
    have w1 : wr [tb n f s b] (tb n f s b) = Rat.divInt (wy n f s b : Nat) (ch n s : Nat) := by unfold wr; rw [e1, e3, wy_wsum]
    rw [w1] at c1
    rw [show (tb n f s b).a = b from rfl, wr_tb hb] at c2 c3
    have e4 : (fun c => decide ((tb (tb n f s b).n (tb n f s b).f (tb n f s b).s c).ways ≤ (tb n f s b).ways)) = fun c => decide (wy n f s c ≤ wy n f s b) := by rw [e1, e2, e3]; rfl
    rw [e4, wr_tb hb] at c4
    exact run_tup (run_cons (run_app (run_one run_var) (ev_ways_of ok st)) (run_cons (run_app (run_one run_var) c1) (run_cons (run_app (run_one run_var) c2) (run_cons (run_app (run_one run_var) c3) (run_one (run_app (run_one run_var) c4))))))
  · have m := ev_margins_of ok st
    rw [e1, e2, e3] at m
    exact run_tup (run_cons (run_app (run_one run_var) m) (run_cons (run_app (run_one run_var) (ev_alike_of ok st)) (run_one (run_app (run_one run_var) (ev_kappa_of ok st)))))
  · have pa := lpart (((tb n f s b).a + (tb n f s b).d : Nat) : Int) (n : Nat) st (by omega) (by rw [Int.natAbs_natCast]; exact Nat.lt_of_le_of_lt h2 (Nat.lt_of_lt_of_le (show 8 < 2 ^ 4 by decide) (Nat.pow_le_pow_right (by decide) (by decide))))
    have pa' : m__law_part [.int (((tb n f s b).a + (tb n f s b).d : Nat) : Int), .int (n : Nat)] st = .ok (frac (al (tb n f s b))) st := by rw [pa, al, e1]
    have g3 : gIdx (tb n f s b).D (.int 3) = some (.int ((tb n f s b).d : Nat)) := rfl
    exact run_tup (run_cons (run_tup (run_cons run_var (run_cons run_var (run_one run_var)))) (run_cons (run_app (ds := [.int (((tb n f s b).a + (tb n f s b).d : Nat) : Int), .int (n : Nat)]) (run_cons (run_bin (x := .int ((tb n f s b).a : Nat)) (y := .int ((tb n f s b).d : Nat)) (run_bin (x := (tb n f s b).D) (y := .int 0) run_var run_cst (pos b)) (run_bin (x := (tb n f s b).D) (y := .int 3) run_var run_cst g3) (by rw [rd_int, rd_int, gAdd_int, Int.natCast_add])) (run_one run_var)) pa') (run_one (run_app (run_one run_var) (ev_law_kappa ok st)))))
end MP.K69

set_option Elab.async false
set_option linter.all false
set_option maxRecDepth 100000
set_option maxHeartbeats 4000000
set_option exponentiation.threshold 100000
/-! P69j: the rest of the law's first half. Own work. -/
namespace MP.K69
open PySem MP
theorem loop7 {P : D} {n f s : Nat} (h1 : 1 ≤ n) (h2 : n ≤ 8) (hf : f ≤ n) (hs : s ≤ n) (L : Lots n f s) (st : Store) (x3 x6 x7 x8 x9 x12 x18 x19 : Option D) :
    ∃ x5 x13 x14 x15 x16 x17, pw7 (lsC P n f s x3 none x6 x7 x8 x9 x12 none none none none none x18 x19) st = .ok (.nx (lsC P n f s x3 x5 x6 x7 x8 x9 x12 x13 x14 x15 x16 x17 x18 x19)) st := by
  obtain ⟨ls', st', h, ⟨_, x5, x13, x14, x15, x16, x17, e2, e3⟩⟩ := forL_run (g := .nm 5) (body := tabStep) (fun b => (tb n f s b).D) (fun r ls st' => (∀ b ∈ r, b ∈ bs n f s) ∧ ∃ x5 x13 x14 x15 x16 x17, ls = lsC P n f s x3 x5 x6 x7 x8 x9 x12 x13 x14 x15 x16 x17 x18 x19 ∧ st' = st)
    (fun b r ls st' ⟨hr, x5, x13, x14, x15, x16, x17, e2, e3⟩ => by
      subst e2 e3
      exact ⟨_, _, _, rfl, tab_step h1 h2 hf hs L (hr b List.mem_cons_self) st' x3 x6 x7 x8 x9 x12 x13 x14 x15 x16 x17 x18 x19, fun c hc => hr c (List.mem_cons_of_mem _ hc), _, _, _, _, _, _, rfl, rfl⟩)
    (bs n f s) (lsC P n f s x3 none x6 x7 x8 x9 x12 none none none none none x18 x19) st ⟨fun _ h => h, _, _, _, _, _, _, rfl, rfl⟩
  refine ⟨x5, x13, x14, x15, x16, x17, ?_⟩
  show forS (.nm 5) (iterS (var 4)) tabStep _ st = _
  unfold forS
  rw [run_iterS run_var, bind_run]
  show forL (.nm 5) tabStep ((bs n f s).map fun b => (tb n f s b).D) _ st = _
  rw [h, e2, e3]
theorem frac_int (b : Int) : frac (fr 1 b) = .tuple [.int b, .int 1] := by
  have e : fr 1 b = (b : Rat) := by
    unfold fr
    rw [show (1 : Int) = ((1 : Nat) : Int) from rfl, Rat.divInt_ofNat]
    exact (Rat.mkRat_self (b : Rat))
  rw [e]; rfl
/-- the numerators of the kappas over one denominator -/
def kp (n f s b : Nat) : Int := (n : Int) * (((tb n f s b).a : Int) + (tb n f s b).d) - km (tb n f s b)
def kmN (n f s : Nat) : Int := (f : Int) * s + ((n : Int) - f) * ((n : Int) - s)
theorem km_tb {n f s b : Nat} (hb : b ∈ bs n f s) : km (tb n f s b) = kmN n f s := by
  obtain ⟨e1, e2, e3⟩ := tb_n hb
  unfold km kmN
  rw [e1, e2, e3]
theorem kap_tb {n f s b : Nat} (hb : b ∈ bs n f s) : kapD (tb n f s b) = if kmN n f s = (n : Int) * n then .none else frac (fr ((n : Int) * n - kmN n f s) (kp n f s b)) := by
  obtain ⟨e1, e2, e3⟩ := tb_n hb
  unfold kapD kap fr kp
  rw [km_tb hb, e1]
theorem kp_eq {n f s b : Nat} (hb : b ∈ bs n f s) : kp n f s b = 2 * ((n : Int) * b) - 2 * ((f : Int) * s) := by
  unfold kp
  rw [km_tb hb]
  rw [mem_bs] at hb
  have d : ((tb n f s b).d : Int) = (n : Int) + b - f - s := by show ((n + b - f - s : Nat) : Int) = _; omega
  have a : ((tb n f s b).a : Int) = b := rfl
  rw [d, a]
  unfold kmN
  grind
theorem kp_sum {n f s : Nat} : ∀ l : List Nat, (∀ b ∈ l, b ∈ bs n f s) → (l.map (kp n f s)).sum = 2 * ((n : Int) * (l.sum : Nat)) - 2 * ((f : Int) * s * (l.length : Nat))
  | [], _ => by simp
  | b :: l, h => by
    rw [List.map_cons, List.sum_cons, kp_eq (h b List.mem_cons_self), kp_sum l fun c hc => h c (List.mem_cons_of_mem _ hc), List.sum_cons, List.length_cons]
    simp only [Int.natCast_add]
    grind
theorem kp_zero {n f s : Nat} (L : Lots n f s) : ((evB n f s).map (kp n f s)).sum = 0 := by
  rw [kp_sum _ L.sub]
  have e := L.sum
  have e' : (n : Int) * ((evB n f s).sum : Nat) = (f : Int) * s * ((evB n f s).length : Nat) := by
    rw [← Int.natCast_mul, ← Int.natCast_mul, ← Int.natCast_mul, e]
  omega
theorem divInt_lt {p q : Int} {N : Nat} (hN : 0 < N) : Rat.divInt p N < Rat.divInt q N ↔ p < q := by
  have h : (0 : Rat) < ((N : Int) : Rat) := by exact_mod_cast (show (0 : Int) < (N : Int) by omega)
  rw [Rat.divInt_eq_div, Rat.divInt_eq_div, Rat.div_lt_iff h, Rat.div_mul_cancel (by intro z; rw [z] at h; exact absurd h Rat.lt_irrefl)]
  exact_mod_cast Iff.rfl
theorem fair_of {N : Nat} (hN : 0 < N) {l : List Nat} {W : Nat → Nat} (h : ∀ b ∈ l, l.countP (fun c => decide (W c ≤ W b)) ≤ W b) : fairB N (l.map fun b => Rat.divInt (W b : Nat) (N : Nat)) = true := by
  unfold fairB
  rw [List.all_eq_true]
  intro lv hlv
  obtain ⟨b, hb, rfl⟩ := List.mem_map.mp hlv
  have e : below (l.map fun b => Rat.divInt (W b : Nat) (N : Nat)) (Rat.divInt (W b : Nat) (N : Nat)) = l.countP (fun c => decide (W c ≤ W b)) := by
    unfold below
    rw [← List.countP_eq_length_filter, List.countP_map]
    refine List.countP_congr fun c _ => ?_
    simp only [Function.comp, divInt_lt hN, Bool.not_eq_true', decide_eq_false_iff_not, decide_eq_true_eq]
    omega
  rw [e]
  have := h b hb
  simp only [Bool.not_eq_true', decide_eq_false_iff_not, divInt_lt hN]
  omega
end MP.K69

set_option Elab.async false
set_option linter.all false
set_option maxRecDepth 100000
set_option maxHeartbeats 4000000
set_option exponentiation.threshold 100000
/-! P69k: the law's first half behind the loop. Own work. -/
namespace MP.K69
open PySem MP
section
variable {P : D} {n f s : Nat} {st : Store} {x3 x5 x6 x7 x8 x9 x12 x13 x14 x15 x16 x17 x18 x19 : Option D}
theorem run6 (h1 : 1 ≤ n) (h2 : n ≤ 8) (hf : f ≤ n) (hs : s ≤ n) : pw6 (lsC P n f s x3 x5 x6 x7 x8 x9 x12 x13 x14 x15 x16 x17 x18 x19) st = .ok (.nx (lsC P n f s x3 x5 x6 x7 x8 x9 x12 x13 x14 x15 x16 x17 x18 x19)) st :=
  run_iffF (st1 := st) (run_orF (st1 := st) (run_reprNe (st1 := st) (st2 := st) (d := .tuple (tabs n f s)) (run_app (run_one (run_tup (run_cons run_var (run_cons run_var (run_one run_var))))) (ev_tables_of h1 (by omega) hf hs st)) (run_blt (ds := [.list (tabs n f s)]) (run_one run_var) rfl) (sh_tabs h1 h2))
    (run_tru (x := .bool false) (run_bin (x := .bool true) (y := .bool true) (run_app (run_one (run_tup (run_cons run_var (run_cons run_var (run_one run_var))))) (ev_are_margins h1 (by omega) hf hs st)) run_cst rfl) rfl)) rfl
/-- the kappas of all lots -/
def kapL (n f s : Nat) : List D := (evB n f s).map fun b => kapD (tb n f s b)
theorem run8 (h1 : 1 ≤ n) (h2 : n ≤ 8) (L : Lots n f s) : pw8 (lsC P n f s x3 x5 x6 x7 x8 x9 x12 x13 x14 x15 x16 x17 x18 x19) st = .ok (.nx (lsC P n f s x3 x5 (some (.list (kapL n f s))) x7 x8 x9 x12 x13 x14 x15 x16 x17 x18 x19)) st := by
  have e := ev_len h2 L
  exact run_asg (lc_all (vs := [5]) (i := 5) (st1 := st) (evB n f s) (fun b => (tb n f s b).D) (fun b => kapD (tb n f s b)) (run_iterS run_var) (by omega) fun b hb => run_app (run_one run_var) (ev_kappa_of (tb_ok h1 (by omega) (L.sub b hb)) st))
theorem ev_nonempty (hs : s ≤ n) (L : Lots n f s) : ∃ b r, evB n f s = b :: r := by
  cases q : evB n f s with
  | nil =>
    have a := L.len
    rw [q] at a
    have p := ch_pos n s hs
    simp at a
    omega
  | cons b r => exact ⟨b, r, rfl⟩
theorem run9 (h1 : 1 ≤ n) (h2 : n ≤ 8) (hf : f ≤ n) (hs : s ≤ n) (L : Lots n f s) : pw9 (lsC P n f s x3 x5 x6 x7 x8 x9 x12 x13 x14 x15 x16 x17 x18 x19) st = .ok (.nx (lsC P n f s x3 x5 x6 x7 x8 x9 x12 x13 x14 x15 x16 x17 x18 x19)) st := by
  have e := ev_len h2 L
  have bsm : ∀ b ∈ evB n f s, b ≤ 8 := fun b hb => by have := mem_bs.mp (L.sub b hb); omega
  have hlc := lc_all (vs := [5]) (i := 5) (it := iterS (var 2)) (e := tupE (consA (bin gIdx (var 5) (cst (.int 0))) (consA (cst (.int 1)) nilA))) (ls := lsC P n f s x3 x5 x6 x7 x8 x9 x12 x13 x14 x15 x16 x17 x18 x19) (st := st) (st1 := st) (evB n f s) (fun b => (tb n f s b).D) (fun b => frac (fr 1 (b : Nat))) (run_iterS run_var) (by omega) fun b hb => by
    rw [frac_int]
    exact run_tup (run_cons (run_bin (x := (tb n f s b).D) (y := .int 0) run_var run_cst rfl) (run_one run_cst))
  have sm := ev_law_sum (M := 1) (B := 8) (ps := (evB n f s).map fun b => ((b : Nat) : Int)) (by decide) (by decide) (fun p hp => by obtain ⟨b, hb, rfl⟩ := List.mem_map.mp hp; have := bsm b hb; omega)
    (by rw [List.length_map]; exact Nat.lt_of_le_of_lt (Nat.mul_le_mul_right 8 e) (by decide)) st
  rw [List.map_map] at sm
  have cs : ∀ l : List Nat, (l.map fun b => ((b : Nat) : Int)).sum = ((l.sum : Nat) : Int) := fun l => by
    induction l with
    | nil => rfl
    | cons b l ih => rw [List.map_cons, List.sum_cons, ih, List.sum_cons, Int.natCast_add]
  rw [cs] at sm
  have q1 : ((n : Nat) : Int) ≠ 0 := by omega
  have q2 : ((n : Nat) : Int).natAbs < 2 ^ 4900 := by rw [Int.natAbs_natCast]; exact Nat.lt_of_le_of_lt h2 (Nat.lt_of_lt_of_le (show 8 < 2 ^ 4 by decide) (Nat.pow_le_pow_right (by decide) (by decide)))
  have pa := lpart (((f : Int) * s) * ((evB n f s).length : Nat)) n st q1 q2
  have same : Rat.divInt (((f : Int) * s) * ((evB n f s).length : Nat)) n = fr 1 ((evB n f s).sum : Nat) := by
    unfold fr
    rw [Rat.divInt_eq_divInt_iff q1 (by decide), ← Int.natCast_mul f s, ← Int.natCast_mul, ← L.sum, Int.natCast_mul, Int.mul_comm, Int.one_mul, Int.mul_comm]
  rw [same] at pa
  have g1 : gMul (.int f) (.int s) = some (.int ((f : Int) * s)) := gMul_int (small (n := 4) (by omega) (by decide)) (small (n := 4) (by omega) (by decide))
  have fs : f * s ≤ 64 := Nat.le_trans (Nat.mul_le_mul (show f ≤ 8 by omega) (show s ≤ 8 by omega)) (by decide)
  have g2 : gMul (.int ((f : Int) * s)) (.int ((evB n f s).length : Nat)) = some (.int (((f : Int) * s) * ((evB n f s).length : Nat))) := gMul_int (small (n := 10) (by rw [← Int.natCast_mul, Int.natAbs_natCast]; omega) (by decide)) (small (n := 10) (by rw [Int.natAbs_natCast]; omega) (by decide))
  obtain ⟨b0, r0, eb⟩ := ev_nonempty hs L
  have m0 : b0 ∈ bs n f s := L.sub b0 (by rw [eb]; exact List.mem_cons_self)
  have g3 : gIdx (.list (evD n f s)) (.int 0) = some (tb n f s b0).D := gIdx_list (n := 0) (by rw [evD, eb]; rfl)
  have it : m_is_table [(tb n f s b0).D] st = .ok (.bool true) st := run_fn (run_ret (run_app (run_one run_var) (ev_is_table_of (tb_ok h1 (by omega) m0) st))) (by simp [okD])
  refine run_iffF (st1 := st) (run_orF (st1 := st) (run_tru (st1 := st) (x := .bool false) (run_bin (x := frac (fr 1 ((evB n f s).sum : Nat))) (y := frac (fr 1 ((evB n f s).sum : Nat))) (run_app (run_one hlc) sm) (run_app (ds := [.int (((f : Int) * s) * ((evB n f s).length : Nat)), .int n]) (run_cons (run_bin (x := .int ((f : Int) * s)) (y := .int ((evB n f s).length : Nat)) (run_bin (x := .int f) (y := .int s) run_var run_var g1) (run_blt (ds := [.list (evD n f s)]) (run_one run_var) ?_) g2) (run_one run_var)) pa) (by rw [rd_frac, gNe_self (ok_frac _)])) rfl)
    (run_tru (st1 := st) (x := .bool false) (run_bin (x := .bool true) (y := .bool true) (run_app (run_one (run_bin (x := .list (evD n f s)) (y := .int 0) run_var run_cst g3)) it) run_cst rfl) rfl)) rfl
  show some (PyData.int _) = _
  rw [evD, List.length_map]
theorem run10 (h1 : 1 ≤ n) (h2 : n ≤ 8) (hf : f ≤ n) (hs : s ≤ n) (L : Lots n f s) : pw10 (lsC P n f s x3 x5 (some (.list (kapL n f s))) x7 x8 x9 x12 x13 x14 x15 x16 x17 x18 x19) st = .ok (.nx (lsC P n f s x3 x5 (some (.list (kapL n f s))) x7 x8 x9 x12 x13 x14 x15 x16 x17 x18 x19)) st := by
  have e := ev_len h2 L
  obtain ⟨b0, r0, eb⟩ := ev_nonempty hs L
  by_cases q : kmN n f s = (n : Int) * n
  · have ek : kapL n f s = (evB n f s).map fun _ => PyData.none := List.map_congr_left fun b hb => by rw [kap_tb (L.sub b hb), if_pos q]
    have al : okD 40 (.none : D) = true ∧ (kapL n f s).all (okD 40) = true := ⟨by simp [okD], by rw [ek, List.all_map, List.all_eq_true]; intro x _; simp [okD]⟩
    have g1 : gIn .none (.list (kapL n f s)) = some (.bool true) := by
      have : isIn .none (.list (kapL n f s)) = some ((kapL n f s).any fun y => PyData.eqv y .none) := if_pos al
      unfold gIn
      rw [this, ek, eb]
      simp [PyData.eqv]
    have g1' : gNotIn .none (.list (kapL n f s)) = some (.bool false) := by
      have : isIn .none (.list (kapL n f s)) = some ((kapL n f s).any fun y => PyData.eqv y .none) := if_pos al
      unfold gNotIn
      rw [this, ek, eb]
      simp [PyData.eqv]
    have g2 : gCount (.list (kapL n f s)) .none = some (.int ((kapL n f s).length : Nat)) := by
      have : gCount (.list (kapL n f s)) .none = some (.int ((kapL n f s).countP fun y => PyData.eqv y .none : Nat)) := if_pos al
      rw [this]
      congr 3
      rw [List.countP_eq_length]
      intro d hd
      rw [ek] at hd
      obtain ⟨b, _, rfl⟩ := List.mem_map.mp hd
      simp [PyData.eqv]
    exact run_iffF (st1 := st) (run_orF (st1 := st) (run_andT (st1 := st) (run_tru (st1 := st) (x := .bool true) (run_bin (x := .none) (y := .list (kapL n f s)) run_cst run_var g1) rfl) (run_tru (st1 := st) (x := .bool false) (run_bin (x := .int ((kapL n f s).length : Nat)) (y := .int ((kapL n f s).length : Nat)) (run_bin (x := .list (kapL n f s)) (y := .none) run_var run_cst g2) (run_blt (ds := [.list (kapL n f s)]) (run_one run_var) rfl) (by rw [rd_int, gNe_int]; simp)) rfl))
      (run_andF (run_tru (st1 := st) (x := .bool false) (run_bin (x := .none) (y := .list (kapL n f s)) run_cst run_var g1') rfl))) rfl
  · have ek : kapL n f s = ((evB n f s).map (kp n f s)).map fun p => frac (fr ((n : Int) * n - kmN n f s) p) := by
      rw [List.map_map]
      exact List.map_congr_left fun b hb => by rw [kap_tb (L.sub b hb), if_neg q]; rfl
    have al : okD 40 (.none : D) = true ∧ (kapL n f s).all (okD 40) = true := ⟨by simp [okD], by rw [ek, List.all_map, List.all_eq_true]; intro x _; exact ok_frac _⟩
    have any : ((kapL n f s).any fun y => PyData.eqv y .none) = false := by
      rw [ek, List.any_map, List.any_eq_false]
      intro x _
      simp [frac, PyData.eqv]
    have inn : isIn .none (.list (kapL n f s)) = some ((kapL n f s).any fun y => PyData.eqv y .none) := if_pos al
    have g1 : gIn .none (.list (kapL n f s)) = some (.bool false) := by unfold gIn; rw [inn, any]; rfl
    have g1' : gNotIn .none (.list (kapL n f s)) = some (.bool true) := by unfold gNotIn; rw [inn, any]; rfl
    have m0 : b0 ∈ bs n f s := L.sub b0 (by rw [eb]; exact List.mem_cons_self)
    have kmb : (kmN n f s).natAbs ≤ 7200 := by rw [← km_tb m0]; exact km_abs (tb_ok h1 (by omega) m0)
    have nn : ((n : Int) * n).natAbs ≤ 64 := by rw [Int.natAbs_mul, Int.natAbs_natCast]; exact Nat.le_trans (Nat.mul_le_mul h2 h2) (by decide)
    have kb : ∀ p ∈ (evB n f s).map (kp n f s), p.natAbs ≤ 10000 := fun p hp => by
      obtain ⟨b, hb, rfl⟩ := List.mem_map.mp hp
      have m := L.sub b hb
      rw [kp_eq m]
      have mb := mem_bs.mp m
      have a1 : n * b ≤ 64 := Nat.le_trans (Nat.mul_le_mul h2 (show b ≤ 8 by omega)) (by decide)
      have a2 : f * s ≤ 64 := Nat.le_trans (Nat.mul_le_mul (show f ≤ 8 by omega) (show s ≤ 8 by omega)) (by decide)
      rw [← Int.natCast_mul, ← Int.natCast_mul]
      omega
    have sm := ev_law_sum (M := (n : Int) * n - kmN n f s) (B := 10000) (ps := (evB n f s).map (kp n f s)) (by omega) (Nat.lt_of_lt_of_le (show ((n : Int) * n - kmN n f s).natAbs < 2 ^ 20 by omega) (Nat.pow_le_pow_right (by decide) (by decide))) kb
      (by rw [List.length_map]; exact Nat.lt_of_le_of_lt (Nat.mul_le_mul_right 10000 e) (by decide)) st
    rw [← ek, kp_zero L, fr_zero] at sm
    exact run_iffF (st1 := st) (run_orF (st1 := st) (run_andF (st1 := st) (run_tru (st1 := st) (x := .bool false) (run_bin (x := .none) (y := .list (kapL n f s)) run_cst run_var g1) rfl))
      (run_andT (st1 := st) (run_tru (st1 := st) (x := .bool true) (run_bin (x := .none) (y := .list (kapL n f s)) run_cst run_var g1') rfl) (run_tru (st1 := st) (x := .bool false) (run_bin (x := frac 0) (y := frac 0) (run_app (run_one run_var) sm) (run_tup (run_cons run_cst (run_one run_cst))) (by rw [rd_frac, gNe_self (ok_frac _)])) rfl))) rfl
theorem run11 (h1 : 1 ≤ n) (h2 : n ≤ 8) : pw11 (lsC P n f s x3 x5 x6 x7 x8 x9 x12 x13 x14 x15 x16 x17 x18 x19) st = .ok (.nx (lsC P n f s x3 x5 x6 (some (.list ((bs n f s).map fun b => frac (al (tb n f s b))))) x8 x9 x12 x13 x14 x15 x16 x17 x18 x19)) st :=
  run_asg (lc_all (vs := [5]) (i := 5) (st1 := st) (bs n f s) (fun b => (tb n f s b).D) (fun b => frac (al (tb n f s b))) (run_iterS run_var) (by unfold bs; rw [List.length_range']; by_cases q : f ≤ 100 <;> by_cases q2 : s ≤ 100 <;> omega) fun b hb => run_app (run_one run_var) (ev_alike_of (tb_ok h1 (by omega) hb) st))
theorem run12 (h1 : 1 ≤ n) (h2 : n ≤ 8) (hf : f ≤ n) (hs : s ≤ n) : pw12 (lsC P n f s x3 x5 x6 (some (.list ((bs n f s).map fun b => frac (al (tb n f s b))))) x8 x9 x12 x13 x14 x15 x16 x17 x18 x19) st = .ok (.nx (lsC P n f s x3 x5 x6 (some (.list ((bs n f s).map fun b => frac (al (tb n f s b))))) x8 x9 x12 x13 x14 x15 x16 x17 x18 x19)) st := by
  obtain ⟨b0, e0⟩ : ∃ b0, (bs n f s).head? = some b0 := by
    cases q : bs n f s with
    | nil => exact absurd q (bs_ne hf hs)
    | cons b r => exact ⟨b, rfl⟩
  obtain ⟨b1, e1⟩ : ∃ b1, (bs n f s).getLast? = some b1 := by
    cases q : (bs n f s).getLast? with
    | none => exact absurd (List.getLast?_eq_none_iff.mp q) (bs_ne hf hs)
    | some b => exact ⟨b, rfl⟩
  have ab := ev_alike_between h1 (show n ≤ 60 by omega) hf hs e0 e1 st
  have g0 : gIdx (.list (tabs n f s)) (.int 0) = some (tb n f s b0).D := gIdx_list (n := 0) (by rw [← List.head?_eq_getElem?, tabs, List.head?_map, e0]; rfl)
  have g1 : gIdx (.list (tabs n f s)) (.int (-1)) = some (tb n f s b1).D := gIdx_last (by rw [tabs, List.getLast?_map, e1]; rfl)
  have a0 : gIdx (.list ((bs n f s).map fun b => frac (al (tb n f s b)))) (.int 0) = some (frac (al (tb n f s b0))) := gIdx_list (n := 0) (by rw [← List.head?_eq_getElem?, List.head?_map, e0]; rfl)
  have a1 : gIdx (.list ((bs n f s).map fun b => frac (al (tb n f s b)))) (.int (-1)) = some (frac (al (tb n f s b1))) := gIdx_last (by rw [List.getLast?_map, e1]; rfl)
  have o : okD 40 (.tuple [.tuple [frac (al (tb n f s b0)), (tb n f s b0).D], .tuple [frac (al (tb n f s b1)), (tb n f s b1).D]]) = true := by simp [okD, frac, Q4.D]
  refine run_iffF (st1 := st) (run_tru (st1 := st) (x := .bool false) (run_bin (st1 := st) (x := .tuple [.tuple [frac (al (tb n f s b0)), (tb n f s b0).D], .tuple [frac (al (tb n f s b1)), (tb n f s b1).D]]) (y := .tuple [.tuple [frac (al (tb n f s b0)), (tb n f s b0).D], .tuple [frac (al (tb n f s b1)), (tb n f s b1).D]])
    (run_app (run_one (run_tup (run_cons run_var (run_cons run_var (run_one run_var))))) ab)
    (run_tup (run_cons (run_tup (run_cons (run_bin (x := .list ((bs n f s).map fun b => frac (al (tb n f s b)))) (y := .int 0) run_var run_cst a0) (run_one (run_bin (x := .list (tabs n f s)) (y := .int 0) run_var run_cst g0)))) (run_one (run_tup (run_cons (run_bin (x := .list ((bs n f s).map fun b => frac (al (tb n f s b)))) (y := .int (-1)) run_var (run_una (x := .int 1) run_cst rfl) a1) (run_one (run_bin (x := .list (tabs n f s)) (y := .int (-1)) run_var (run_una (x := .int 1) run_cst rfl) g1))))))) (by rw [rd_tup, gNe_self o])) rfl) rfl
theorem run13 (h1 : 1 ≤ n) (h2 : n ≤ 8) (hf : f ≤ n) (hs : s ≤ n) (L : Lots n f s) : pw13 (lsC P n f s x3 x5 x6 x7 x8 x9 x12 x13 x14 x15 x16 x17 x18 x19) st = .ok (.nx (lsC P n f s x3 x5 x6 x7 x8 x9 x12 x13 x14 x15 x16 x17 x18 x19)) st := by
  have e := ev_len h2 L
  have hN : 0 < ch n s := ch_pos n s hs
  obtain ⟨q0, q1⟩ := ch_q (show n ≤ 60 by omega) hs
  have hN2 : ch n s < 2 ^ 100 := by rw [Int.natAbs_natCast] at q1; exact Nat.lt_trans q1 (by decide)
  have fair : ∀ (W : Nat → Nat) (m : ME), (∀ b ∈ bs n f s, W b < 2 ^ 200) → (∀ b ∈ evB n f s, (evB n f s).countP (fun c => decide (W c ≤ W b)) ≤ W b) →
      (∀ b ∈ evB n f s, m ((wipeL (lsC P n f s x3 x5 x6 x7 x8 x9 x12 x13 x14 x15 x16 x17 x18 x19) [19]).set 19 (some (tb n f s b).D)) st = .ok (frac (Rat.divInt (W b : Nat) (ch n s : Nat))) st) →
      notT (tru (app m__law_is_share_fair (consA (blt bLen (consA (var 2) nilA)) (consA (lc [19] (.nm 19) (iterS (var 2)) yesT m) nilA)))) (lsC P n f s x3 x5 x6 x7 x8 x9 x12 x13 x14 x15 x16 x17 x18 x19) st = .ok false st := by
    intro W m hW hf hm
    have hlc := lc_all (vs := [19]) (i := 19) (it := iterS (var 2)) (e := m) (ls := lsC P n f s x3 x5 x6 x7 x8 x9 x12 x13 x14 x15 x16 x17 x18 x19) (st := st) (st1 := st) (evB n f s) (fun b => (tb n f s b).D) (fun b => frac (Rat.divInt (W b : Nat) (ch n s : Nat))) (run_iterS run_var) (by omega) hm
    have sf := ev_share_fair hN hN2 (rs := (evB n f s).map fun b => Rat.divInt (W b : Nat) (ch n s : Nat)) (fun r hr => by
      obtain ⟨b, hb, rfl⟩ := List.mem_map.mp hr
      exact (sz_div (k := 200) q0 (by rw [Int.natAbs_natCast]; exact hW b (L.sub b hb)) (Nat.lt_trans q1 (by decide))).mono (by decide)) (by rw [List.length_map]; omega) st
    rw [List.map_map, fair_of hN hf] at sf
    exact run_not (b := true) (run_tru (st1 := st) (x := .bool true) (run_app (run_cons (run_blt (ds := [.list (evD n f s)]) (run_one run_var) (by show some (PyData.int _) = _; rw [evD, List.length_map, L.len])) (run_one hlc)) sf) rfl)
  refine run_iffF (st1 := st) (run_orF (st1 := st) (fair (fun b => wsum n f s fun c => decide (b ≤ c)) _ (fun b _ => wsum_lt (by omega) _) (fun b hb => L.fair b (L.sub b hb)) fun b hb => run_app (run_one run_var) ?_) (fair (fun b => wsum n f s fun c => decide (wy n f s c ≤ wy n f s b)) _ (fun b _ => wsum_lt (by omega) _) (fun b hb => L.fair2 b (L.sub b hb)) fun b hb => run_app (run_one run_var) ?_)) rfl
  · have ok := tb_ok h1 (show n ≤ 60 by omega) (L.sub b hb)
    rw [ev_share_above ok st, show (tb n f s b).a = b from rfl, wr_tb (L.sub b hb)]
  · have ok := tb_ok h1 (show n ≤ 60 by omega) (L.sub b hb)
    obtain ⟨e1, e2, e3⟩ := tb_n (L.sub b hb)
    have e4 : (fun c => decide ((tb (tb n f s b).n (tb n f s b).f (tb n f s b).s c).ways ≤ (tb n f s b).ways)) = fun c => decide (wy n f s c ≤ wy n f s b) := by rw [e1, e2, e3]; rfl
    rw [ev_share_apart ok st, e4, wr_tb (L.sub b hb)]
end
end MP.K69

set_option Elab.async false
set_option linter.all false
set_option maxRecDepth 100000
set_option maxHeartbeats 4000000
set_option exponentiation.threshold 100000
/-! P69l: the law's first half. Own work. -/
namespace MP
open PySem
theorem run_fnR {n : Nat} {b : MS} {ds : List D} {st st1 : Store} {d : D} (h : b (startL n ds) st = .ok (.rt d) st1) (o : okD 40 d = true) : fnM false n b ds st = .ok d (st1.take st.length) := by
  unfold fnM
  rw [h]
  exact retD_ok o
theorem set_app {st : Store} {k : Nat} {x : Option D} {r : Store} (h : k < st.length) : (st ++ r).set k x = st.set k x ++ r := List.set_append_left _ _ h
end MP
namespace MP.K69
open PySem MP
theorem tk {t k : Nat} {u : Int} {st : Store} (h : PotAt t k st) (hn : t < 2 ^ 30) (hu : 0 < u) (hu2 : u < 2 ^ 1000) : ∃ (d : Int) (p : D), 0 ≤ d ∧ d < u ∧ PotAt (t + 1) k (st.set k (some p)) ∧ m__law_take [mref k, .int u] st = .ok (.int d) (st.set k (some p)) :=
  take_at (c5 := 155353) (c6 := 3713) (c7 := 10759) (by decide) h hn hu hu2
theorem ifE_ne (xs : List Nat) {ls : Ls} {i : Nat} (hv : ls[i]? = some (some (.list (xs.map fun b => PyData.int (b : Nat))))) (st : Store) : ifE (tru (bin gNe (var i) (lstE nilA))) (bin gIdx (var i) (cst (.int 0))) (cst .none) ls st = .ok (headD xs) st := by
  have g : gNe (.list (xs.map fun b => PyData.int (b : Nat))) (.list []) = some (.bool (!xs.isEmpty)) := by
    rw [gNe_ok (by simp [okD]) (by simp [okD])]
    cases xs with
    | nil => simp [PyData.eqv, PyData.eqvAll]
    | cons x xs => simp [PyData.eqv, PyData.eqvAll]
  have c : tru (bin gNe (var i) (lstE nilA)) ls st = .ok (!xs.isEmpty) st := run_tru (x := .bool (!xs.isEmpty)) (run_bin (x := .list (xs.map fun b => PyData.int (b : Nat))) (y := .list []) (run_var hv) rfl g) rfl
  unfold ifE
  rw [c, bind_run]
  cases xs with
  | nil => rfl
  | cons x xs => exact run_bin (x := .list ((x :: xs).map fun b => PyData.int (b : Nat))) (y := .int 0) (run_var hv) run_cst (gIdx_l0 _ _)
theorem sho_head {xs : List Nat} (h : ∀ b ∈ xs, b ≤ 60) : Sho (headD xs) := by
  cases xs with
  | nil => exact sh_none.sho (by decide) (by decide)
  | cons b r => exact (sh_int (i := (b : Nat)) (by have := h b List.mem_cons_self; rw [Int.natAbs_natCast]; exact Nat.lt_of_le_of_lt this (Nat.lt_of_lt_of_le (show 60 < 2 ^ 6 by decide) (Nat.pow_le_pow_right (by decide) (by decide))))).sho (by decide) (by decide)
theorem run15 {P : D} {n f s : Nat} {st : Store} {x3 x5 x6 x7 x9 x12 x13 x14 x15 x16 x17 x18 x19 : Option D} (h1 : 1 ≤ n) (h2 : n ≤ 8) {lv : Rat} (hz : Sz 200 lv) : pw15 (lsC P n f s x3 x5 x6 x7 (some (frac lv)) x9 x12 x13 x14 x15 x16 x17 x18 x19) st
    = .ok (.nx (lsC P n f s x3 x5 x6 x7 (some (frac lv)) (some (.list ((pass lv n f s).map fun b => PyData.int (b : Nat)))) x12 x13 x14 x15 x16 x17 x18 x19)) st :=
  run_asg (lc_run (vs := [5]) (i := 5) (st1 := st) (bs n f s) (fun b => (tb n f s b).D) (fun b => PyData.int (b : Nat)) (fun b => !decide (lv < sa n f s b)) (run_iterS run_var) (by unfold bs; rw [List.length_range']; by_cases q : f ≤ 100 <;> by_cases q2 : s ≤ 100 <;> omega) fun b hb =>
    ⟨run_not (run_tru (x := .bool (decide (lv < sa n f s b))) (run_app (run_cons run_var (run_one (run_app (run_one run_var) (ev_share_above (tb_ok h1 (by omega) hb) st)))) (lless lv _ 200 st hz (sz_sa (by omega) hb) (by decide))) rfl), fun _ => rfl⟩)
theorem run16 {P : D} {n f s : Nat} {st : Store} {x3 x5 x6 x7 x12 x13 x14 x15 x16 x17 x18 x19 : Option D} (h1 : 1 ≤ n) (h2 : n ≤ 8) (hf : f ≤ n) (hs : s ≤ n) {lv : Rat} (hz : Sz 200 lv) (l0 : 0 ≤ lv.num) (l1 : lv.num ≤ lv.den) :
    pw16 (lsC P n f s x3 x5 x6 x7 (some (frac lv)) (some (.list ((pass lv n f s).map fun b => PyData.int (b : Nat)))) x12 x13 x14 x15 x16 x17 x18 x19) st = .ok (.rt (.bool true)) st :=
  run_ret (run_reprEq (st1 := st) (d := headD (pass lv n f s)) (run_app (run_cons (run_tup (run_cons run_var (run_cons run_var (run_one run_var)))) (run_one run_var)) (ev_needed h1 (by omega) hf hs hz l0 l1 st)) (ifE_ne _ rfl st)
    (sho_head fun b hb => by have := mem_bs.mp (List.mem_filter.mp hb).1; omega))
theorem ways_right {t k : Nat} {st : Store} (h : PotAt t k st) (ht : t + 4 < 2 ^ 30) : ∃ p, PotAt (t + 4) k (st.set k (some p)) ∧ m__law_are_ways_right [mref k] st = .ok (.bool true) (st.set k (some p)) := by
  have hk : k < st.length := by obtain ⟨_, _, _, e, _⟩ := h; exact (List.getElem?_eq_some_iff.mp e).1
  obtain ⟨d0, p0, a0, b0, c0, e0⟩ := tk (u := 8) h (by omega) (by decide) (by decide)
  obtain ⟨n, hn⟩ : ∃ n : Nat, 1 + d0 = (n : Int) := ⟨(1 + d0).toNat, by omega⟩
  have h1 : 1 ≤ n := by omega
  have h2 : n ≤ 8 := by omega
  obtain ⟨d1, p1, a1, b1, c1, e1⟩ := tk (u := (n : Int) + 1) c0 (by omega) (by omega) (by omega)
  obtain ⟨d2, p2, a2, b2, c2, e2⟩ := tk (u := (n : Int) + 1) c1 (by omega) (by omega) (by omega)
  obtain ⟨f, hf⟩ : ∃ f : Nat, d1 = (f : Int) := ⟨d1.toNat, by omega⟩
  obtain ⟨s, hs⟩ : ∃ s : Nat, d2 = (s : Int) := ⟨d2.toNat, by omega⟩
  subst hf hs
  have lf : f ≤ n := by omega
  have ls : s ≤ n := by omega
  simp only [List.set_set] at c1 e1 c2 e2
  have L := lots_of h1 h2 lf ls
  generalize hst : st.set k (some p2) = st3 at *
  have l3 : st3.length = st.length := by rw [← hst, List.length_set]
  obtain ⟨x3, x12, eL⟩ := lots_loop (P := mref k) h2 ls L st3
  obtain ⟨x5, x13, x14, x15, x16, x17, e7⟩ := loop7 (P := mref k) h1 h2 lf ls L (st3 ++ [none]) x3 none none none none x12 none none
  have cN : PotAt (t + 3) k (st3 ++ [none]) := c2.of (List.getElem?_append_left (by omega))
  obtain ⟨d3, p3, a3, b3, c3, e3⟩ := tk (u := 21) cN (by omega) (by decide) (by decide)
  rw [set_app (by omega)] at c3 e3
  have e9 : (Rat.divInt d3 20).num.natAbs ≤ 20 ∧ 0 ≤ (Rat.divInt d3 20).num ∧ (Rat.divInt d3 20).num ≤ (Rat.divInt d3 20).den ∧ Sz 200 (Rat.divInt d3 20) := by
    have all : ∀ d : Nat, d < 21 → (Rat.divInt (d : Nat) 20).num.natAbs ≤ 20 ∧ 0 ≤ (Rat.divInt (d : Nat) 20).num ∧ (Rat.divInt (d : Nat) 20).num ≤ (Rat.divInt (d : Nat) 20).den := by decide +kernel
    obtain ⟨dn, rfl⟩ : ∃ d : Nat, d3 = (d : Int) := ⟨d3.toNat, by omega⟩
    obtain ⟨u1, u2, u3⟩ := all dn (by omega)
    exact ⟨u1, u2, u3, sz_div (by decide) (by rw [Int.natAbs_natCast]; omega) (by decide)⟩
  obtain ⟨_, z0, z1, zz⟩ := e9
  have e20 := lpart d3 20 (st3.set k (some p3) ++ [none]) (by decide) (by decide)
  generalize hlv : Rat.divInt d3 20 = lv at *
  refine ⟨p3, ?_, ?_⟩
  · have := c3.of (st' := st3.set k (some p3)) (by rw [List.getElem?_append_left (by rw [List.length_set]; omega)])
    rw [← hst, List.set_set] at this
    exact this
  · rw [ways_split]
    have body : (sq pw0 (sq pw1 (sq pw2 (sq pw3 (sq pw4 (sq pw5 (sq pw6 (sq pw7 (sq pw8 (sq pw9 (sq pw10 (sq pw11 (sq pw12 (sq pw13 (sq pw14 (sq pw15 pw16)))))))))))))))) (startL 20 [mref k]) st = .ok (.rt (.bool true)) (st3.set k (some p3) ++ [none]) := by
      refine run_sq (ls1 := [some (mref k), some (.int n), none, none, none, none, none, none, none, none, none, none, none, none, none, none, none, none, none, none]) (run_asg (d := .int n) (run_bin (x := .int 1) (y := .int d0) run_cst (run_app (run_cons run_var (run_one run_cst)) e0) (by rw [rd_int, rd_int, gAdd_int, hn]))) ?_
      refine run_sq (ls1 := [some (mref k), some (.int n), none, none, none, none, none, none, none, none, some (.int f), some (.int s), none, none, none, none, none, none, none, none]) (st1 := st3) (run_asgT (d := .tuple [.int f, .int s]) (run_tup (run_cons (run_app (run_cons run_var (run_one (run_bin (x := .int n) (y := .int 1) run_var run_cst rfl))) e1) (run_one (run_app (run_cons run_var (run_one (run_bin (x := .int n) (y := .int 1) run_var run_cst rfl))) e2)))) rfl) ?_
      refine run_sq (ls1 := lsA (mref k) n f s st3.length none none) (st1 := st3 ++ [some (.list [])]) (run_asg (d := mref st3.length) rfl) ?_
      refine run_sq (ls1 := lsA (mref k) n f s st3.length x3 x12) (st1 := st3 ++ [some (.list (evD n f s))]) eL ?_
      refine run_sq (ls1 := [some (mref k), some (.int n), some (.list (evD n f s)), x3, none, none, none, none, none, none, some (.int f), some (.int s), x12, none, none, none, none, none, none, none]) (st1 := st3 ++ [none]) ?_ ?_
      · show (match getM (st3 ++ [some (.list (evD n f s))]) (mref st3.length) with | some (k, ds) => Res.ok (Fl.nx ((lsA (mref _) n f s st3.length x3 x12).set 2 (some (PyData.list ds)))) ((st3 ++ [some (PyData.list (evD n f s))]).set k none) | none => Res.stuck) = _
        rw [getM_pot]
        show Res.ok _ ((st3 ++ [some (PyData.list (evD n f s))]).set st3.length none) = _
        rw [set_pot]; rfl
      refine run_sq (ls1 := lsC (mref k) n f s x3 none none none none none x12 none none none none none none none) (st1 := st3 ++ [none]) (run_asg (run_una (x := .list (evD n f s)) run_var (sort_tb h1 (by omega) L ls))) ?_
      refine run_sq (run6 h1 h2 lf ls) (run_sq e7 (run_sq (run8 h1 h2 L) (run_sq (run9 h1 h2 lf ls L) (run_sq (run10 h1 h2 lf ls L) (run_sq (run11 h1 h2) (run_sq (run12 h1 h2 lf ls) (run_sq (run13 h1 h2 lf ls L) ?_)))))))
      refine run_sq (ls1 := lsC (mref k) n f s x3 x5 (some (.list (kapL n f s))) (some (.list ((bs n f s).map fun b => frac (al (tb n f s b))))) (some (frac lv)) none x12 x13 x14 x15 x16 x17 none none) (st1 := st3.set k (some p3) ++ [none]) (run_asg (run_app (run_cons (run_app (run_cons run_var (run_one run_cst)) e3) (run_one run_cst)) e20)) ?_
      exact run_sq (run15 h1 h2 zz) (run16 h1 h2 lf ls zz z0 z1)
    rw [run_fnR body (by simp [okD])]
    have : List.take st.length (st3.set k (some p3) ++ [none]) = st.set k (some p3) := by
      rw [List.take_append_of_le_length (by rw [List.length_set]; omega), List.take_of_length_le (by rw [List.length_set]; omega), ← hst, List.set_set]
    rw [this]
end MP.K69

set_option Elab.async false
set_option linter.all false
set_option maxRecDepth 100000
set_option maxHeartbeats 4000000
set_option exponentiation.threshold 100000
/-! P69m: tables turned and exchanged. Own work. -/
namespace MP
def fact : Nat → Nat
  | 0 => 1
  | n + 1 => (n + 1) * fact n
theorem fact_pos : ∀ n, 0 < fact n
  | 0 => by decide
  | n + 1 => Nat.mul_pos (by omega) (fact_pos n)
theorem ch_fact : ∀ (n k : Nat), k ≤ n → ch n k * (fact k * fact (n - k)) = fact n
  | n, 0, _ => by rw [ch_zero]; simp [fact]
  | 0, k + 1, h => by omega
  | n + 1, k + 1, h => by
    have st := ch_step (n + 1) k
    have ih := ch_fact n k (by omega)
    by_cases q : k = n
    · subst q
      rw [ch_self, Nat.sub_self]
      simp [fact]
    · have i1 := ch_fact n (k + 1) (by omega)
      show (ch n k + ch n (k + 1)) * (fact (k + 1) * fact (n + 1 - (k + 1))) = fact (n + 1)
      rw [show n + 1 - (k + 1) = n - k by omega]
      have e : fact (n - k) = (n - k) * fact (n - (k + 1)) := by
        rw [show n - k = (n - (k + 1)) + 1 by omega]; rfl
      have f1 : fact (k + 1) = (k + 1) * fact k := rfl
      have f2 : fact (n + 1) = (n + 1) * fact n := rfl
      rw [Nat.add_mul]
      have a : ch n k * (fact (k + 1) * fact (n - k)) = (k + 1) * fact n := by
        rw [← ih, f1]
        simp only [Nat.mul_assoc, Nat.mul_comm, Nat.mul_left_comm]
      have b : ch n (k + 1) * (fact (k + 1) * fact (n - k)) = (n - k) * fact n := by
        rw [← i1, e]
        simp only [Nat.mul_assoc, Nat.mul_comm, Nat.mul_left_comm]
      rw [a, b, ← Nat.add_mul, f2]
      congr 1
      omega
theorem ch_symm {n k : Nat} (h : k ≤ n) : ch n (n - k) = ch n k := by
  have a := ch_fact n k h
  have b := ch_fact n (n - k) (by omega)
  rw [show n - (n - k) = k by omega, Nat.mul_comm (fact (n - k))] at b
  exact Nat.eq_of_mul_eq_mul_right (Nat.mul_pos (fact_pos k) (fact_pos (n - k))) (b.trans a.symm)
/-- the ways of a table times its rows' ways: alike in rows and columns -/
theorem multi {n f s b : Nat} (h : f + s ≤ n + b) (hf : b ≤ f) (hs : b ≤ s) (hn : f ≤ n) : ch n f * (ch f b * ch (n - f) (s - b)) * (fact b * fact (f - b) * (fact (s - b) * fact (n + b - f - s))) = fact n := by
  have a := ch_fact n f hn
  have c := ch_fact f b hf
  have d := ch_fact (n - f) (s - b) (by omega)
  rw [show n - f - (s - b) = n + b - f - s by omega] at d
  rw [← a, ← c, ← d]
  simp only [Nat.mul_assoc, Nat.mul_comm, Nat.mul_left_comm]
theorem exchanged {n f s b : Nat} (h : f + s ≤ n + b) (hf : b ≤ f) (hs : b ≤ s) (hn : f ≤ n) (hn2 : s ≤ n) : ch n f * (ch f b * ch (n - f) (s - b)) = ch n s * (ch s b * ch (n - s) (f - b)) := by
  have a := multi h hf hs hn
  have c := multi (n := n) (f := s) (s := f) (b := b) (by omega) hs hf hn2
  rw [show n + b - s - f = n + b - f - s by omega] at c
  refine Nat.eq_of_mul_eq_mul_right (m := fact b * fact (f - b) * (fact (s - b) * fact (n + b - f - s))) (Nat.mul_pos (Nat.mul_pos (fact_pos _) (fact_pos _)) (Nat.mul_pos (fact_pos _) (fact_pos _))) ?_
  rw [a, ← c]
  simp only [Nat.mul_assoc, Nat.mul_comm, Nat.mul_left_comm]
theorem filter_drop (a : Nat) : ∀ (m lo : Nat), lo ≤ a → (List.range' lo m).filter (fun c => decide (a ≤ c)) = (List.range' lo m).drop (a - lo)
  | 0, lo, _ => by simp
  | m + 1, lo, h => by
    rw [List.range'_succ]
    by_cases q : a = lo
    · subst q
      rw [Nat.sub_self, List.drop_zero, List.filter_eq_self]
      intro x hx
      rcases List.mem_cons.mp hx with rfl | hx
      · simp
      · have := List.mem_range'_1.mp hx
        simp; omega
    · rw [List.filter_cons_of_neg (by simp; omega), filter_drop a m (lo + 1) (by omega), show a - lo = (a - (lo + 1)) + 1 by omega, List.drop_succ_cons]
theorem filter_take (a : Nat) : ∀ (m lo : Nat), lo ≤ a → (List.range' lo m).filter (fun c => decide (c ≤ a)) = (List.range' lo m).take (a - lo + 1)
  | 0, lo, _ => by simp
  | m + 1, lo, h => by
    rw [List.range'_succ, List.filter_cons_of_pos (by simp; omega), List.take_succ_cons]
    congr 1
    by_cases q : a = lo
    · subst q
      rw [Nat.sub_self, List.take_zero, List.filter_eq_nil_iff]
      intro x hx
      have := List.mem_range'_1.mp hx
      simp; omega
    · rw [filter_take a m (lo + 1) (by omega), show a - lo = (a - (lo + 1)) + 1 by omega]
end MP
namespace MP.K69
open PySem MP
theorem wy_eq {n f s b : Nat} (hb : b ∈ bs n f s) : wy n f s b = ch f b * ch (n - f) (s - b) := by
  rw [mem_bs] at hb
  unfold wy tb Q4.ways
  simp only
  rw [show b + (f - b) = f by omega, show s - b + (n + b - f - s) = n - f by omega]
theorem wsum_eq (n f s : Nat) (p : Nat → Bool) : wsum n f s p = (((bs n f s).filter p).map (wy n f s)).sum := by
  unfold wsum sumW
  rw [List.map_map]; rfl
theorem bs_comm (n f s : Nat) : bs n s f = bs n f s := by
  unfold bs
  rw [Nat.add_comm s f, Nat.min_comm]
theorem sum_mul (c : Nat) (g h : Nat → Nat) (d : Nat) : ∀ l : List Nat, (∀ b ∈ l, c * g b = d * h b) → c * (l.map g).sum = d * (l.map h).sum
  | [], _ => by simp
  | b :: l, hl => by
    rw [List.map_cons, List.sum_cons, List.map_cons, List.sum_cons, Nat.mul_add, Nat.mul_add, hl b List.mem_cons_self, sum_mul c g h d l fun x hx => hl x (List.mem_cons_of_mem _ hx)]
/-- rows and columns exchanged -/
theorem wsum_ex {n f s : Nat} (hf : f ≤ n) (hs : s ≤ n) (p : Nat → Bool) : ch n f * wsum n f s p = ch n s * wsum n s f p := by
  rw [wsum_eq, wsum_eq, bs_comm n f s]
  refine sum_mul _ _ _ _ _ fun b hb => ?_
  have m := (List.mem_filter.mp hb).1
  rw [wy_eq m, wy_eq (by rw [bs_comm]; exact m)]
  rw [mem_bs] at m
  exact exchanged m.1 m.2.1 m.2.2 hf hs
theorem bs_turn {n f s : Nat} (hf : f ≤ n) (hs : s ≤ n) : (bs n f s).map (fun b => f - b) = (bs n f (n - s)).reverse := by
  have l1 : min f s + 1 - (f + s - n) = min f (n - s) + 1 - (f + (n - s) - n) := by omega
  unfold bs
  rw [← l1]
  refine List.ext_getElem? fun i => ?_
  by_cases hi : i < min f s + 1 - (f + s - n)
  · rw [List.getElem?_map, List.getElem?_range' (by exact hi), List.getElem?_reverse (by rw [List.length_range']; exact hi), List.length_range', List.getElem?_range' (by omega)]
    simp only [Option.map_some]
    congr 1
    omega
  · rw [List.getElem?_eq_none (by rw [List.length_map, List.length_range']; omega), List.getElem?_eq_none (by rw [List.length_reverse, List.length_range']; omega)]
theorem wsum_turn {n f s a : Nat} (hf : f ≤ n) (hs : s ≤ n) (ha : a ≤ f) : wsum n f (n - s) (fun c => decide (f - a ≤ c)) = wsum n f s (fun c => decide (c ≤ a)) := by
  rw [wsum_eq, wsum_eq]
  have pm : (((bs n f (n - s)).filter (fun c => decide (f - a ≤ c))).map (wy n f (n - s))).sum = ((((bs n f (n - s)).reverse.filter (fun c => decide (f - a ≤ c))).map (wy n f (n - s)))).sum := by
    have := ((List.reverse_perm (bs n f (n - s))).filter (fun c => decide (f - a ≤ c))).map (wy n f (n - s))
    exact (List.Perm.sum_nat this).symm
  rw [pm, ← bs_turn hf hs, List.filter_map, List.map_map]
  have fe : (bs n f s).filter ((fun c => decide (f - a ≤ c)) ∘ fun b => f - b) = (bs n f s).filter (fun c => decide (c ≤ a)) := List.filter_congr fun b hb => by
    rw [mem_bs] at hb
    simp only [Function.comp]
    exact decide_eq_decide.mpr (by omega)
  rw [fe]
  congr 1
  refine List.map_congr_left fun b hb => ?_
  have m := (List.mem_filter.mp hb).1
  have m' : f - b ∈ bs n f (n - s) := by
    rw [mem_bs] at m ⊢
    omega
  simp only [Function.comp]
  rw [wy_eq m, wy_eq m']
  rw [mem_bs] at m
  rw [ch_symm m.2.1, show n - s - (f - b) = (n - f) - (s - b) by omega, ch_symm (by omega)]
end MP.K69

set_option Elab.async false
set_option linter.all false
set_option maxRecDepth 100000
set_option maxHeartbeats 4000000
set_option exponentiation.threshold 100000
/-! P69n: the steps of the law's second half. Own work. -/
namespace MP.K69
open PySem MP
abbrev pg0 : MS := asg 1 (lc [ 13 ] (.nm 13) (iterR1 (consA (cst (.int 4)) nilA)) yesT (app m__law_take (consA (var 0) (consA (cst (.int 16)) nilA))))
abbrev pg1 : MS := asg 2 (blt bTuple (consA (ifE (tru (bin gGt (blt bSum (consA (var 1) nilA)) (cst (.int 0)))) (var 1) (lstE (consA (cst (.int 1)) (consA (cst (.int 0)) (consA (cst (.int 0)) (consA (cst (.int 0)) nilA)))))) nilA))
abbrev pg2 : MS := asgT (.tp (.cons (.nm 7) (.cons (.nm 8) (.cons (.nm 9) .nil)))) (tupE (consA (blt bSum (consA (var 2) nilA)) (consA (bin gAdd (bin gIdx (var 2) (cst (.int 0))) (bin gIdx (var 2) (cst (.int 1)))) (consA (bin gAdd (bin gIdx (var 2) (cst (.int 0))) (bin gIdx (var 2) (cst (.int 2)))) nilA))))
abbrev pg3 : MS := par3 10 11 12 (consA (blt bMax (consA (cst (.int 0)) (consA (bin gSub (bin gAdd (var 8) (var 9)) (var 7)) nilA))) (consA (blt bMin (consA (var 8) (consA (var 9) nilA))) (consA (app m__law_choose (consA (var 7) (consA (var 9) nilA))) nilA)))
abbrev pg4 : MS := asg 3 (lc [ 14 ] (.nm 14) (iterR2 (consA (var 10) (consA (bin gAdd (var 11) (cst (.int 1))) nilA))) yesT (bin gMul (app m__law_choose (consA (var 8) (consA (var 14) nilA))) (app m__law_choose (consA (bin gSub (var 7) (var 8)) (consA (bin gSub (var 9) (var 14)) nilA)))))
abbrev pg5 : MS := asg 4 (bin gIdx (var 3) (bin gSub (bin gIdx (var 2) (cst (.int 0))) (var 10)))
abbrev pg6 : MS := asg 5 (tupE (consA (app m__law_part (consA (var 4) (consA (var 12) nilA))) (consA (app m__law_part (consA (blt bSum (consA (slc (var 3) (someP (bin gSub (bin gIdx (var 2) (cst (.int 0))) (var 10))) noP) nilA)) (consA (var 12) nilA))) (consA (app m__law_part (consA (blt bSum (consA (slc (var 3) noP (someP (bin gAdd (bin gSub (bin gIdx (var 2) (cst (.int 0))) (var 10)) (cst (.int 1))))) nilA)) (consA (var 12) nilA))) nilA))))
abbrev pg7 : MS := asg 5 (bin gAdd (var 5) (tupE (consA (app m__law_part (consA (blt bSum (consA (lc [ 15 ] (.nm 15) (iterS (var 3)) (tru (bin gLe (var 15) (var 4))) (var 15)) nilA)) (consA (var 12) nilA))) (consA (var 4) (consA (app m__law_kappa (consA (var 2) nilA)) nilA)))))
abbrev pg8 : MS := iff (tru (bin gNe (blt bRepr (consA (tupE (consA (app m_chance_of (consA (var 2) nilA)) (consA (app m_share_above (consA (var 2) nilA)) (consA (app m_share_below (consA (var 2) nilA)) (consA (app m_share_apart (consA (var 2) nilA)) (consA (app m_ways_of (consA (var 2) nilA)) (consA (app m_kappa_of (consA (var 2) nilA)) nilA))))))) nilA)) (blt bRepr (consA (var 5) nilA)))) (retS (cst (.bool false))) skp
abbrev pg9 : MS := asg 6 (tupE (consA (bin gIdx (var 2) (cst (.int 1))) (consA (bin gIdx (var 2) (cst (.int 0))) (consA (bin gIdx (var 2) (cst (.int 3))) (consA (bin gIdx (var 2) (cst (.int 2))) nilA)))))
abbrev pg10 : MS := retS (andE (bin gEq (app m_share_above (consA (var 6) nilA)) (app m_share_below (consA (var 2) nilA))) (bin gEq (app m_share_above (consA (tupE (consA (bin gIdx (var 2) (cst (.int 0))) (consA (bin gIdx (var 2) (cst (.int 2))) (consA (bin gIdx (var 2) (cst (.int 1))) (consA (bin gIdx (var 2) (cst (.int 3))) nilA))))) nilA)) (app m_share_above (consA (var 2) nilA))))
theorem great_split : m__law_is_great_right = fnM false 16 (sq pg0 (sq pg1 (sq pg2 (sq pg3 (sq pg4 (sq pg5 (sq pg6 (sq pg7 (sq pg8 (sq pg9 pg10)))))))))) := rfl
theorem pot_self {t k : Nat} {st : Store} (h : PotAt t k st) : ∃ q, st = st.set k (some q) := by
  obtain ⟨a, b, c, e, _⟩ := h
  obtain ⟨hk, e2⟩ := List.getElem?_eq_some_iff.mp e
  exact ⟨potL a b c, by rw [← e2, List.set_getElem_self]⟩
/-- digits in a comprehension -/
theorem lc_take {k i : Nat} {e : ME} {ls : Ls} {u : Int} (hu : 0 < u) (hu2 : u < 2 ^ 1000) (he : ∀ (x : D) (st : Store), e (ls.set i (some x)) st = m__law_take [mref k, .int u] st) : ∀ (xs : List D) (t : Nat) (st : Store), PotAt t k st → t + xs.length < 2 ^ 30 → xs.length ≤ 1000 →
    ∃ (ds : List Int) (p : D), ds.length = xs.length ∧ (∀ d ∈ ds, 0 ≤ d ∧ d < u) ∧ PotAt (t + xs.length) k (st.set k (some p)) ∧ lcL (.nm i) yesT e ls xs st = .ok (ds.map PyData.int) (st.set k (some p))
  | [], t, st, h, _, _ => by
    obtain ⟨q, hq⟩ := pot_self h
    exact ⟨[], q, rfl, fun d hd => (by cases hd), hq ▸ h, by rw [← hq]; rfl⟩
  | x :: xs, t, st, h, hl, hm => by
    rw [List.length_cons] at hl hm ⊢
    obtain ⟨d, p, a, b, c, e1⟩ := tk h (by omega) hu hu2
    obtain ⟨ds, p2, e2, e3, e4, e5⟩ := lc_take hu hu2 he xs (t + 1) _ c (by omega) (by omega)
    rw [List.set_set] at e4 e5
    refine ⟨d :: ds, p2, by rw [List.length_cons, e2], fun z hz => ?_, by rw [show t + (xs.length + 1) = t + 1 + xs.length by omega]; exact e4, ?_⟩
    · rcases List.mem_cons.mp hz with rfl | hz
      · exact ⟨a, b⟩
      · exact e3 z hz
    · unfold lcL
      have y : yesT (ls.set i (some x)) st = .ok true st := rfl
      simp only [tgSet, y, bind_run, if_true, he, e1, e5]
      have : (ds.map PyData.int).length < 16777216 := by rw [List.length_map, e2]; omega
      rw [if_pos this, List.map_cons]
theorem sum_ints (l : List Nat) (g : Nat → Nat) : bSum [.list (l.map fun b => PyData.int (g b : Nat))] = some (.int ((l.map g).sum : Nat)) := by
  have e : (l.map fun b => PyData.int ((g b : Nat) : Int)) = (l.map fun b => ((g b : Nat) : Int)).map PyData.int := by rw [List.map_map]; rfl
  have e2 : bSum [.list ((l.map fun b => ((g b : Nat) : Int)).map PyData.int)] = (asInts ((l.map fun b => ((g b : Nat) : Int)).map PyData.int)).map fun l => PyData.int l.sum := rfl
  rw [e, e2, asInts_map, Option.map_some]
  congr 2
  induction l with
  | nil => rfl
  | cons x r ih =>
    rw [List.map_cons, List.sum_cons, List.map_cons, List.sum_cons, Int.natCast_add, ih]
    · rw [List.map_map]; rfl
    · rfl
abbrev lsG (P : D) (x1 : Option D) (t : Q4) (x3 x4 x5 x6 : Option D) : Ls := [some P, x1, some t.D, x3, x4, x5, x6, some (.int t.n), some (.int t.f), some (.int t.s), some (.int ((t.f + t.s - t.n : Nat) : Int)), some (.int ((min t.f t.s : Nat) : Int)), some (.int (ch t.n t.s : Nat)), none, none, none]
def wL (t : Q4) : List D := (bs t.n t.f t.s).map fun b => PyData.int (wy t.n t.f t.s b : Nat)
theorem a_mem {t : Q4} : t.a ∈ bs t.n t.f t.s := by
  rw [mem_bs]
  unfold Q4.n Q4.f Q4.s
  omega
theorem wy_a {t : Q4} : wy t.n t.f t.s t.a = t.ways := by
  rw [wy_eq a_mem]
  unfold Q4.ways
  rw [show t.n - t.f = t.c + t.d by unfold Q4.n Q4.f; omega, show t.s - t.a = t.c by unfold Q4.s; omega]; rfl
theorem runG4 {P : D} {x1 x3 x4 x5 x6 : Option D} {t : Q4} (h : t.ok) (st : Store) : pg4 (lsG P x1 t x3 x4 x5 x6) st = .ok (.nx (lsG P x1 t (some (.list (wL t))) x4 x5 x6)) st := by
  have l := ns_le t
  have h2 := h.2
  have it : iterR2 (consA (var 10) (consA (bin gAdd (var 11) (cst (.int 1))) nilA)) (lsG P x1 t x3 x4 x5 x6) st = .ok ((bs t.n t.f t.s).map fun b => PyData.int (b : Nat)) st := by
    have c : ((((min t.f t.s : Nat) : Int) + 1) ≤ 16777216 ∧ -16777216 ≤ (((min t.f t.s : Nat) : Int) + 1) ∧ ((t.f + t.s - t.n : Nat) : Int) ≤ 16777216 ∧ -16777216 ≤ ((t.f + t.s - t.n : Nat) : Int)) := ⟨by omega, by omega, by omega, by omega⟩
    have e := rng_from (t.f + t.s - t.n) (min t.f t.s + 1)
    rw [Int.natCast_add] at e
    have e' : rng ((t.f + t.s - t.n : Nat) : Int) (((min t.f t.s : Nat) : Int) + 1) = (bs t.n t.f t.s).map fun b => PyData.int (b : Nat) := e
    unfold iterR2
    rw [run_cons (d := .int ((t.f + t.s - t.n : Nat) : Int)) run_var (run_one (run_bin (x := .int ((min t.f t.s : Nat) : Int)) run_var run_cst rfl)), bind_run]
    exact (if_pos c).trans (congrArg (fun z => Res.ok z st) e')
  refine run_asg (lc_all (vs := [14]) (i := 14) (st1 := st) (bs t.n t.f t.s) (fun b => PyData.int (b : Nat)) (fun b => PyData.int (wy t.n t.f t.s b : Nat)) it (by have := bs_len t.n t.f t.s; omega) fun b hb => ?_)
  have m := mem_bs.mp hb
  have c1 := lch t.f b st m.2.1 (by omega)
  have c2 := lch (t.n - t.f) (t.s - b) st (by omega) (by omega)
  have l1 := ch_le t.f b
  have l2 := ch_le (t.n - t.f) (t.s - b)
  have p1 : 2 ^ t.f ≤ 2 ^ 60 := Nat.pow_le_pow_right (by decide) (by omega)
  have p2 : 2 ^ (t.n - t.f) ≤ 2 ^ 60 := Nat.pow_le_pow_right (by decide) (by omega)
  have g : gMul (.int (ch t.f b : Nat)) (.int (ch (t.n - t.f) (t.s - b) : Nat)) = some (.int (wy t.n t.f t.s b : Nat)) := by
    rw [gMul_int (small (n := 61) (by rw [Int.natAbs_natCast]; omega) (by decide)) (small (n := 61) (by rw [Int.natAbs_natCast]; omega) (by decide)), wy_eq hb, Int.natCast_mul]
  have s1 : gSub (.int t.n) (.int t.f) = some (.int ((t.n - t.f : Nat) : Int)) := by rw [gSub_int, Int.natCast_sub l.1]
  have s2 : gSub (.int t.s) (.int b) = some (.int ((t.s - b : Nat) : Int)) := by rw [gSub_int, Int.natCast_sub m.2.2]
  exact run_bin (x := .int (ch t.f b : Nat)) (y := .int (ch (t.n - t.f) (t.s - b) : Nat)) (run_app (run_cons run_var (run_one run_var)) c1) (run_app (run_cons (run_bin (x := .int t.n) (y := .int t.f) run_var run_var s1) (run_one (run_bin (x := .int t.s) (y := .int b) run_var run_var s2))) c2) g
theorem off_a {t : Q4} : gSub (.int t.a) (.int ((t.f + t.s - t.n : Nat) : Int)) = some (.int ((t.a - (t.f + t.s - t.n) : Nat) : Int)) := by
  have := mem_bs.mp (a_mem (t := t))
  show some (PyData.int _) = _
  congr 2
  omega
theorem runG5 {P : D} {x1 x4 x5 x6 : Option D} {t : Q4} (st : Store) : pg5 (lsG P x1 t (some (.list (wL t))) x4 x5 x6) st = .ok (.nx (lsG P x1 t (some (.list (wL t))) (some (.int (t.ways : Nat))) x5 x6)) st := by
  have m := mem_bs.mp (a_mem (t := t))
  have g : gIdx (.list (wL t)) (.int ((t.a - (t.f + t.s - t.n) : Nat) : Int)) = some (.int (t.ways : Nat)) := gIdx_list (by
    unfold wL bs
    rw [List.getElem?_map, List.getElem?_range' (by omega)]
    simp only [Option.map_some]
    rw [show t.f + t.s - t.n + 1 * (t.a - (t.f + t.s - t.n)) = t.a by omega, wy_a])
  exact run_asg (run_bin (x := .list (wL t)) (y := .int ((t.a - (t.f + t.s - t.n) : Nat) : Int)) run_var (run_bin (x := .int t.a) (y := .int ((t.f + t.s - t.n : Nat) : Int)) (run_bin (x := t.D) (y := .int 0) run_var run_cst rfl) run_var off_a) g)
def shr (t : Q4) (w : Nat) : D := frac (Rat.divInt (w : Nat) (ch t.n t.s : Nat))
theorem prt {t : Q4} (h : t.ok) (w : Nat) (st : Store) : m__law_part [.int (w : Nat), .int (ch t.n t.s : Nat)] st = .ok (shr t w) st := by
  obtain ⟨a, b⟩ := ch_ne (t := t)
  exact lpart _ _ st a (b h.2)
def d3 (t : Q4) : List D := [shr t t.ways, shr t (wsum t.n t.f t.s fun c => decide (t.a ≤ c)), shr t (wsum t.n t.f t.s fun c => decide (c ≤ t.a))]
theorem runG6 {P : D} {x1 x5 x6 : Option D} {t : Q4} (h : t.ok) (st : Store) : pg6 (lsG P x1 t (some (.list (wL t))) (some (.int (t.ways : Nat))) x5 x6) st = .ok (.nx (lsG P x1 t (some (.list (wL t))) (some (.int (t.ways : Nat))) (some (.tuple (d3 t))) x6)) st := by
  have m := mem_bs.mp (a_mem (t := t))
  have off : bin gSub (bin gIdx (var 2) (cst (.int 0))) (var 10) (lsG P x1 t (some (.list (wL t))) (some (.int (t.ways : Nat))) x5 x6) st = .ok (.int ((t.a - (t.f + t.s - t.n) : Nat) : Int)) st := run_bin (x := .int t.a) (y := .int ((t.f + t.s - t.n : Nat) : Int)) (run_bin (x := t.D) (y := .int 0) run_var run_cst rfl) run_var off_a
  have off1 : bin gAdd (bin gSub (bin gIdx (var 2) (cst (.int 0))) (var 10)) (cst (.int 1)) (lsG P x1 t (some (.list (wL t))) (some (.int (t.ways : Nat))) x5 x6) st = .ok (.int ((t.a - (t.f + t.s - t.n) + 1 : Nat) : Int)) st := run_bin (x := .int ((t.a - (t.f + t.s - t.n) : Nat) : Int)) (y := .int 1) off run_cst (by rw [rd_int, rd_int, gAdd_int]; rfl)
  have s1 : slc (var 3) (someP (bin gSub (bin gIdx (var 2) (cst (.int 0))) (var 10))) noP (lsG P x1 t (some (.list (wL t))) (some (.int (t.ways : Nat))) x5 x6) st = .ok (.list (((bs t.n t.f t.s).filter fun c => decide (t.a ≤ c)).map fun b => PyData.int (wy t.n t.f t.s b : Nat))) st := by
    have e : gSlc (.list (wL t)) (some ((t.a - (t.f + t.s - t.n) : Nat) : Int)) none = some (.list (((bs t.n t.f t.s).filter fun c => decide (t.a ≤ c)).map fun b => PyData.int (wy t.n t.f t.s b : Nat))) := by
      show some (PyData.list (cutD (wL t) _ _)) = _
      rw [cut_from, wL, ← List.map_drop]
      unfold bs
      rw [filter_drop t.a _ _ (by omega)]
    have ep : someP (bin gSub (bin gIdx (var 2) (cst (.int 0))) (var 10)) (lsG P x1 t (some (.list (wL t))) (some (.int (t.ways : Nat))) x5 x6) st = .ok (some ((t.a - (t.f + t.s - t.n) : Nat) : Int)) st := by
      unfold someP
      rw [off, bind_run]
    unfold slc
    rw [run_var (d := .list (wL t)), bind_run, ep, bind_run]
    show (ofOpt (gSlc (.list (wL t)) _ none) st) = _
    rw [e]; rfl
  have s2 : slc (var 3) noP (someP (bin gAdd (bin gSub (bin gIdx (var 2) (cst (.int 0))) (var 10)) (cst (.int 1)))) (lsG P x1 t (some (.list (wL t))) (some (.int (t.ways : Nat))) x5 x6) st = .ok (.list (((bs t.n t.f t.s).filter fun c => decide (c ≤ t.a)).map fun b => PyData.int (wy t.n t.f t.s b : Nat))) st := by
    have e : gSlc (.list (wL t)) none (some ((t.a - (t.f + t.s - t.n) + 1 : Nat) : Int)) = some (.list (((bs t.n t.f t.s).filter fun c => decide (c ≤ t.a)).map fun b => PyData.int (wy t.n t.f t.s b : Nat))) := by
      show some (PyData.list (cutD (wL t) _ _)) = _
      rw [cut_to, wL, ← List.map_take]
      unfold bs
      rw [filter_take t.a _ _ (by omega)]
    have ep : someP (bin gAdd (bin gSub (bin gIdx (var 2) (cst (.int 0))) (var 10)) (cst (.int 1))) (lsG P x1 t (some (.list (wL t))) (some (.int (t.ways : Nat))) x5 x6) st = .ok (some ((t.a - (t.f + t.s - t.n) + 1 : Nat) : Int)) st := by
      unfold someP
      rw [off1, bind_run]
    unfold slc
    rw [run_var (d := .list (wL t)), bind_run]
    show (((someP (bin gAdd (bin gSub (bin gIdx (var 2) (cst (.int 0))) (var 10)) (cst (.int 1)))) (lsG P x1 t (some (.list (wL t))) (some (.int (t.ways : Nat))) x5 x6) st).bind fun h st3 => ofOpt (gSlc (rd st3 (.list (wL t))) none h) st3) = _
    rw [ep, bind_run, rd_lst, e]; rfl
  have w1 := sum_ints ((bs t.n t.f t.s).filter fun c => decide (t.a ≤ c)) (wy t.n t.f t.s)
  have w2 := sum_ints ((bs t.n t.f t.s).filter fun c => decide (c ≤ t.a)) (wy t.n t.f t.s)
  rw [← wsum_eq] at w1 w2
  exact run_asg (run_tup (ds := d3 t) (hl := by simp [d3]) (run_cons (run_app (run_cons run_var (run_one run_var)) (prt h _ st)) (run_cons (run_app (run_cons (run_blt (run_one s1) w1) (run_one run_var)) (prt h _ st)) (run_one (run_app (run_cons (run_blt (run_one s2) w2) (run_one run_var)) (prt h _ st))))))
def d6 (t : Q4) : D := .tuple (d3 t ++ [shr t (wsum t.n t.f t.s fun c => decide (wy t.n t.f t.s c ≤ t.ways)), .int (t.ways : Nat), kapD t])
theorem runG7 {P : D} {x1 x6 : Option D} {t : Q4} (h : t.ok) (st : Store) : pg7 (lsG P x1 t (some (.list (wL t))) (some (.int (t.ways : Nat))) (some (.tuple (d3 t))) x6) st = .ok (.nx (lsG P x1 t (some (.list (wL t))) (some (.int (t.ways : Nat))) (some (d6 t)) x6)) st := by
  have l := ns_le t
  have hlc := lc_run (vs := [15]) (i := 15) (it := iterS (var 3)) (t := tru (bin gLe (var 15) (var 4))) (e := var 15) (ls := lsG P x1 t (some (.list (wL t))) (some (.int (t.ways : Nat))) (some (.tuple (d3 t))) x6) (st := st) (st1 := st) (bs t.n t.f t.s) (fun b => PyData.int (wy t.n t.f t.s b : Nat)) (fun b => PyData.int (wy t.n t.f t.s b : Nat)) (fun b => decide (wy t.n t.f t.s b ≤ t.ways)) (run_iterS run_var)
    (by have := bs_len t.n t.f t.s; have := h.2; omega) fun b _ => ⟨run_tru (x := .bool (decide (wy t.n t.f t.s b ≤ t.ways))) (run_bin (x := .int (wy t.n t.f t.s b : Nat)) (y := .int (t.ways : Nat)) run_var run_var (by rw [rd_int, rd_int, gLe_int]; congr 2; exact decide_eq_decide.mpr Int.ofNat_le)) rfl, fun _ => rfl⟩
  have w1 := sum_ints ((bs t.n t.f t.s).filter fun c => decide (wy t.n t.f t.s c ≤ t.ways)) (wy t.n t.f t.s)
  rw [← wsum_eq] at w1
  have g : gAdd (.tuple (d3 t)) (.tuple [shr t (wsum t.n t.f t.s fun c => decide (wy t.n t.f t.s c ≤ t.ways)), .int (t.ways : Nat), kapD t]) = some (d6 t) := by
    have q : (d3 t).length + [shr t (wsum t.n t.f t.s fun c => decide (wy t.n t.f t.s c ≤ t.ways)), PyData.int (t.ways : Nat), kapD t].length ≤ 16777216 := by simp [d3]
    show (if (d3 t).length + [shr t (wsum t.n t.f t.s fun c => decide (wy t.n t.f t.s c ≤ t.ways)), PyData.int (t.ways : Nat), kapD t].length ≤ 16777216 then some (PyData.tuple (d3 t ++ [shr t (wsum t.n t.f t.s fun c => decide (wy t.n t.f t.s c ≤ t.ways)), PyData.int (t.ways : Nat), kapD t])) else none) = _
    rw [if_pos q]; rfl
  exact run_asg (run_bin (x := .tuple (d3 t)) run_var (run_tup (run_cons (run_app (run_cons (run_blt (run_one hlc) w1) (run_one run_var)) (prt h _ st)) (run_cons run_var (run_one (run_app (run_one run_var) (ev_law_kappa h st)))))) g)
end MP.K69

set_option Elab.async false
set_option linter.all false
set_option maxRecDepth 100000
set_option maxHeartbeats 4000000
set_option exponentiation.threshold 100000
/-! P69o: the law's second half; the law. Own work. -/
namespace MP.K69
open PySem MP
theorem wr_one {t : Q4} : frac (wr [t] t) = shr t t.ways := by unfold wr shr sumW; simp
theorem wr_sel {t : Q4} (p : Nat → Bool) : frac (wr (sel t p) t) = shr t (wsum t.n t.f t.s p) := rfl
theorem apart_eq {t : Q4} : (fun b => decide ((tb t.n t.f t.s b).ways ≤ t.ways)) = fun c => decide (wy t.n t.f t.s c ≤ t.ways) := rfl
theorem sh_shr {t : Q4} (h : t.ok) {w : Nat} (hw : w < 2 ^ 200) : Sh 5000 1 (shr t w) := sh_share h.2 (ns_le t).2 hw
theorem sh_kapD {t : Q4} (h : t.ok) : Sh 5000 1 (kapD t) := by
  unfold kapD
  split
  · exact sh_none.mono (by decide) (by decide)
  · rename_i q
    refine sh_frac (k := 20) (sz_div (by omega) ?_ ?_) (by decide)
    · have a := km_abs h
      have l := h.2
      have p : t.a + t.d ≤ 60 := by unfold Q4.n at l; omega
      have m := prod_le l p
      have e : ((t.n : Int) * ((t.a : Int) + t.d)) = ((t.n * (t.a + t.d) : Nat) : Int) := by rw [Int.natCast_mul, Int.natCast_add]
      rw [e]
      generalize t.n * (t.a + t.d) = z at m
      omega
    · have a := km_abs h
      have c := (nn_abs h).2
      omega
theorem ways_lt {t : Q4} (h : t.ok) : t.ways < 2 ^ 200 := by
  rw [← wy_a (t := t)]
  exact wy_lt h.2 a_mem
theorem sho_d6 {t : Q4} (h : t.ok) : Sho (d6 t) := by
  refine (sh_tup (w := 5000) (k := 1) (ds := d3 t ++ [shr t (wsum t.n t.f t.s fun c => decide (wy t.n t.f t.s c ≤ t.ways)), .int (t.ways : Nat), kapD t]) fun d hd => ?_).sho (by simp [d3]) (by decide)
  simp only [d3, List.cons_append, List.nil_append, List.mem_cons, List.not_mem_nil, or_false] at hd
  rcases hd with rfl | rfl | rfl | rfl | rfl | rfl
  · exact sh_shr h (ways_lt h)
  · exact sh_shr h (wsum_lt h.2 _)
  · exact sh_shr h (wsum_lt h.2 _)
  · exact sh_shr h (wsum_lt h.2 _)
  · exact (sh_int (by rw [Int.natAbs_natCast]; exact Nat.lt_trans (ways_lt h) (Nat.pow_lt_pow_right (by decide) (by decide)))).mono (by decide) (by decide)
  · exact sh_kapD h
theorem runG8 {P : D} {x1 x3 x4 x6 : Option D} {t : Q4} (h : t.ok) (st : Store) : pg8 (lsG P x1 t x3 x4 (some (d6 t)) x6) st = .ok (.nx (lsG P x1 t x3 x4 (some (d6 t)) x6)) st := by
  have c1 := ev_chance_of h st
  have c2 := ev_share_above h st
  have c3 := ev_share_below h st
  have c4 := ev_share_apart h st
  rw [wr_one] at c1
  rw [wr_sel] at c2 c3 c4
  rw [apart_eq] at c4
  exact run_iffF (st1 := st) (run_reprNe (st1 := st) (st2 := st) (d := d6 t) (run_tup (ds := d3 t ++ [shr t (wsum t.n t.f t.s fun c => decide (wy t.n t.f t.s c ≤ t.ways)), .int (t.ways : Nat), kapD t]) (hl := by simp [d3]) (run_cons (run_app (run_one run_var) c1) (run_cons (run_app (run_one run_var) c2) (run_cons (run_app (run_one run_var) c3) (run_cons (run_app (run_one run_var) c4) (run_cons (run_app (run_one run_var) (ev_ways_of h st)) (run_one (run_app (run_one run_var) (ev_kappa_of h st))))))))) run_var (sho_d6 h)) rfl
/-- turned; exchanged -/
def turn (t : Q4) : Q4 := ⟨t.b, t.a, t.d, t.c⟩
def exch (t : Q4) : Q4 := ⟨t.a, t.c, t.b, t.d⟩
theorem turn_ok {t : Q4} (h : t.ok) : (turn t).ok := by unfold Q4.ok Q4.n turn at *; simp only; omega
theorem exch_ok {t : Q4} (h : t.ok) : (exch t).ok := by unfold Q4.ok Q4.n exch at *; simp only; omega
theorem turn_share {t : Q4} : shr (turn t) (wsum (turn t).n (turn t).f (turn t).s fun c => decide ((turn t).a ≤ c)) = shr t (wsum t.n t.f t.s fun c => decide (c ≤ t.a)) := by
  have e1 : (turn t).n = t.n := by unfold Q4.n turn; simp only; omega
  have e2 : (turn t).f = t.f := by unfold Q4.f turn; simp only; omega
  have e3 : (turn t).s = t.n - t.s := by unfold Q4.s Q4.n turn; simp only; omega
  have e4 : (turn t).a = t.f - t.a := by unfold Q4.f turn; simp only; omega
  have l := ns_le t
  unfold shr
  rw [e1, e2, e3, e4, wsum_turn l.1 l.2 (by unfold Q4.f; omega), ch_symm l.2]
theorem exch_share {t : Q4} : shr (exch t) (wsum (exch t).n (exch t).f (exch t).s fun c => decide ((exch t).a ≤ c)) = shr t (wsum t.n t.f t.s fun c => decide (t.a ≤ c)) := by
  have e1 : (exch t).n = t.n := by unfold Q4.n exch; simp only; omega
  have e2 : (exch t).f = t.s := rfl
  have e3 : (exch t).s = t.f := rfl
  have e4 : (exch t).a = t.a := rfl
  have l := ns_le t
  have a := ch_pos t.n t.f l.1
  have b := ch_pos t.n t.s l.2
  unfold shr
  rw [e1, e2, e3, e4]
  congr 1
  rw [Rat.divInt_eq_divInt_iff (by omega) (by omega), ← Int.natCast_mul, ← Int.natCast_mul, Nat.mul_comm, ← wsum_ex l.1 l.2, Nat.mul_comm]
theorem runG9 {P : D} {x1 x3 x4 x5 x6 : Option D} {t : Q4} (st : Store) : pg9 (lsG P x1 t x3 x4 x5 x6) st = .ok (.nx (lsG P x1 t x3 x4 x5 (some (turn t).D))) st :=
  run_asg (run_tup (ds := [.int t.b, .int t.a, .int t.d, .int t.c]) (run_cons (run_bin (x := t.D) (y := .int 1) run_var run_cst rfl) (run_cons (run_bin (x := t.D) (y := .int 0) run_var run_cst rfl) (run_cons (run_bin (x := t.D) (y := .int 3) run_var run_cst rfl) (run_one (run_bin (x := t.D) (y := .int 2) run_var run_cst rfl))))))
theorem runG10 {P : D} {x1 x3 x4 x5 : Option D} {t : Q4} (h : t.ok) (st : Store) : pg10 (lsG P x1 t x3 x4 x5 (some (turn t).D)) st = .ok (.rt (.bool true)) st := by
  have c1 := ev_share_above (turn_ok h) st
  have c2 := ev_share_below h st
  have c3 := ev_share_above (exch_ok h) st
  have c4 := ev_share_above h st
  rw [wr_sel, turn_share] at c1
  rw [wr_sel, exch_share] at c3
  rw [wr_sel] at c2 c4
  have o : ∀ w, okD 40 (shr t w) = true := fun w => ok_frac _
  have first : bin gEq (app m_share_above (consA (var 6) nilA)) (app m_share_below (consA (var 2) nilA)) (lsG P x1 t x3 x4 x5 (some (turn t).D)) st = .ok (.bool true) st :=
    run_bin (run_app (run_one run_var) c1) (run_app (run_one run_var) c2) (by rw [rd_ok (o _), gEq_self (o _)])
  refine run_ret ?_
  unfold andE
  rw [first, bind_run, rd_bool, gTru_bool, ofOpt_some, bind_run, if_pos rfl]
  exact run_bin (run_app (run_one (run_tup (ds := [.int t.a, .int t.c, .int t.b, .int t.d]) (run_cons (run_bin (x := t.D) (y := .int 0) run_var run_cst rfl) (run_cons (run_bin (x := t.D) (y := .int 2) run_var run_cst rfl) (run_cons (run_bin (x := t.D) (y := .int 1) run_var run_cst rfl) (run_one (run_bin (x := t.D) (y := .int 3) run_var run_cst rfl))))))) c3) (run_app (run_one run_var) c4) (by rw [rd_ok (o _), gEq_self (o _)])
theorem great_right {t k : Nat} {st : Store} (h : PotAt t k st) (ht : t + 4 < 2 ^ 30) : ∃ p, PotAt (t + 4) k (st.set k (some p)) ∧ m__law_is_great_right [mref k] st = .ok (.bool true) (st.set k (some p)) := by
  obtain ⟨ds, p, e1, e2, e3, e4⟩ := lc_take (k := k) (i := 13) (e := app m__law_take (consA (var 0) (consA (cst (.int 16)) nilA))) (ls := wipeL (startL 16 [mref k]) [13]) (u := 16) (by decide) (by decide) (fun x st => rfl) (rng 0 4) t st h (by show t + 4 < _; exact ht) (by decide)
  have l4 : ds.length = 4 := e1
  refine ⟨p, e3, ?_⟩
  generalize hst : st.set k (some p) = st1 at *
  obtain ⟨i1, i2, i3, i4, rfl⟩ : ∃ i1 i2 i3 i4, ds = [i1, i2, i3, i4] := by
    match ds, l4 with
    | [i1, i2, i3, i4], _ => exact ⟨i1, i2, i3, i4, rfl⟩
  have b1 := e2 i1 (by simp)
  have b2 := e2 i2 (by simp)
  have b3 := e2 i3 (by simp)
  have b4 := e2 i4 (by simp)
  -- the table
  obtain ⟨tt, ok, et⟩ : ∃ tt : Q4, tt.ok ∧ ifE (tru (bin gGt (blt bSum (consA (var 1) nilA)) (cst (.int 0)))) (var 1) (lstE (consA (cst (.int 1)) (consA (cst (.int 0)) (consA (cst (.int 0)) (consA (cst (.int 0)) nilA))))) ((startL 16 [mref k]).set 1 (some (.list ([i1, i2, i3, i4].map PyData.int)))) st1 = .ok (.list (tt.zs.map PyData.int)) st1 := by
    have sm : bSum [.list ([i1, i2, i3, i4].map PyData.int)] = some (.int (i1 + (i2 + (i3 + (i4 + 0))))) := rfl
    have c : tru (bin gGt (blt bSum (consA (var 1) nilA)) (cst (.int 0))) ((startL 16 [mref k]).set 1 (some (.list ([i1, i2, i3, i4].map PyData.int)))) st1 = .ok (decide (0 < i1 + (i2 + (i3 + (i4 + 0))))) st1 :=
      run_tru (x := .bool (decide (0 < i1 + (i2 + (i3 + (i4 + 0)))))) (run_bin (x := .int (i1 + (i2 + (i3 + (i4 + 0))))) (y := .int 0) (run_blt (ds := [.list ([i1, i2, i3, i4].map PyData.int)]) (run_one run_var) sm) run_cst rfl) rfl
    by_cases q : 0 < i1 + (i2 + (i3 + (i4 + 0)))
    · refine ⟨⟨i1.toNat, i2.toNat, i3.toNat, i4.toNat⟩, ?_, ?_⟩
      · unfold Q4.ok Q4.n
        simp only
        omega
      · unfold ifE
        rw [c, bind_run, decide_eq_true q, if_pos rfl]
        refine run_var ?_
        show some (some (PyData.list [.int i1, .int i2, .int i3, .int i4])) = some (some (PyData.list [.int (i1.toNat : Nat), .int (i2.toNat : Nat), .int (i3.toNat : Nat), .int (i4.toNat : Nat)]))
        rw [Int.toNat_of_nonneg b1.1, Int.toNat_of_nonneg b2.1, Int.toNat_of_nonneg b3.1, Int.toNat_of_nonneg b4.1]
    · refine ⟨⟨1, 0, 0, 0⟩, by unfold Q4.ok Q4.n; decide, ?_⟩
      unfold ifE
      rw [c, bind_run, decide_eq_false q, if_neg (by decide)]
      rfl
  have l := ns_le tt
  have ef : gAdd (.int tt.a) (.int tt.b) = some (.int (tt.f : Nat)) := by rw [gAdd_int]; rfl
  have es : gAdd (.int tt.a) (.int tt.c) = some (.int (tt.s : Nat)) := by rw [gAdd_int]; rfl
  have cw := lch tt.n tt.s st1 l.2 (by have := ok.2; omega)
  have mx : bMax [.int 0, .int ((tt.f : Int) + (tt.s : Int) - (tt.n : Int))] = some (.int ((tt.f + tt.s - tt.n : Nat) : Int)) := max_lo
  have mn : bMin [.int (tt.f : Int), .int (tt.s : Int)] = some (.int ((min tt.f tt.s : Nat) : Int)) := min_hi
  have body : (sq pg0 (sq pg1 (sq pg2 (sq pg3 (sq pg4 (sq pg5 (sq pg6 (sq pg7 (sq pg8 (sq pg9 pg10)))))))))) (startL 16 [mref k]) st = .ok (.rt (.bool true)) st1 := by
    refine run_sq (ls1 := (startL 16 [mref k]).set 1 (some (.list ([i1, i2, i3, i4].map PyData.int)))) (st1 := st1) (run_asg (d := .list ([i1, i2, i3, i4].map PyData.int)) ?_) ?_
    · unfold lc
      have it : iterR1 (consA (cst (.int 4)) nilA) (startL 16 [mref k]) st = .ok (rng 0 4) st := rfl
      rw [it, bind_run, e4, bind_run]
    refine run_sq (ls1 := [some (mref k), some (.list ([i1, i2, i3, i4].map PyData.int)), some tt.D, none, none, none, none, none, none, none, none, none, none, none, none, none]) (st1 := st1) (run_asg (d := tt.D) (run_blt (ds := [.list (tt.zs.map PyData.int)]) (run_one et) rfl)) ?_
    refine run_sq (ls1 := [some (mref k), some (.list ([i1, i2, i3, i4].map PyData.int)), some tt.D, none, none, none, none, some (.int tt.n), some (.int tt.f), some (.int tt.s), none, none, none, none, none, none]) (st1 := st1) (run_asgT (d := .tuple [.int tt.n, .int tt.f, .int tt.s]) (run_tup (run_cons (run_blt (ds := [tt.D]) (run_one run_var) (sum_D tt)) (run_cons (run_bin (x := .int tt.a) (y := .int tt.b) (run_bin (x := tt.D) (y := .int 0) run_var run_cst rfl) (run_bin (x := tt.D) (y := .int 1) run_var run_cst rfl) ef)
      (run_one (run_bin (x := .int tt.a) (y := .int tt.c) (run_bin (x := tt.D) (y := .int 0) run_var run_cst rfl) (run_bin (x := tt.D) (y := .int 2) run_var run_cst rfl) es))))) rfl) ?_
    refine run_sq (ls1 := lsG (mref k) (some (.list ([i1, i2, i3, i4].map PyData.int))) tt none none none none) (st1 := st1) (run_par3 (x := .int ((tt.f + tt.s - tt.n : Nat) : Int)) (y := .int ((min tt.f tt.s : Nat) : Int)) (z := .int (ch tt.n tt.s : Nat)) (run_cons (run_blt (ds := [.int 0, .int ((tt.f : Int) + tt.s - tt.n)]) (run_cons run_cst (run_one (run_bin (x := .int ((tt.f : Int) + tt.s)) (y := .int tt.n) (run_bin (x := .int tt.f) (y := .int tt.s) run_var run_var rfl) run_var rfl))) mx)
      (run_cons (run_blt (ds := [.int tt.f, .int tt.s]) (run_cons run_var (run_one run_var)) mn) (run_one (run_app (run_cons run_var (run_one run_var)) cw))))) ?_
    exact run_sq (runG4 ok st1) (run_sq (runG5 st1) (run_sq (runG6 ok st1) (run_sq (runG7 ok st1) (run_sq (runG8 ok st1) (run_sq (runG9 st1) (runG10 ok st1))))))
  rw [great_split, run_fnR body (by simp [okD])]
  have : List.take st.length st1 = st1 := List.take_of_length_le (by rw [← hst, List.length_set]; exact Nat.le_refl _)
  rw [this]
end MP.K69

set_option Elab.async false
set_option linter.all false
set_option maxRecDepth 100000
set_option maxHeartbeats 4000000
set_option exponentiation.threshold 100000
/-! P69: the law of k69, of its mirror. Own work. -/
namespace MP.K69
open PySem MP
theorem ev_cells (ns : List Int) (hl : ns.length ≤ 63) (st : Store) : m__law_cells [.list (ns.map PyData.int), .int 3] st = .ok (.list ((List.range (max 1 (min 3 ns.length))).map fun i => PyData.int (i : Nat))) st := by
  have mn : bMin [.int 3, .int ((ns.map PyData.int).length : Nat)] = some (.int ((min 3 ns.length : Nat) : Int)) := by
    rw [List.length_map]
    show some (PyData.int _) = _
    congr 2
    split <;> omega
  have mx : bMax [.int 1, .int ((min 3 ns.length : Nat) : Int)] = some (.int ((max 1 (min 3 ns.length) : Nat) : Int)) := by
    show some (PyData.int _) = _
    congr 2
    split <;> omega
  have e : blt bMax (consA (cst (.int 1)) (consA (blt bMin (consA (var 1) (consA (blt bLen (consA (var 0) nilA)) nilA))) nilA)) [some (.list (ns.map PyData.int)), some (.int 3)] st = .ok (.int ((max 1 (min 3 ns.length) : Nat) : Int)) st :=
    run_blt (ds := [.int 1, .int ((min 3 ns.length : Nat) : Int)]) (run_cons run_cst (run_one (run_blt (ds := [.int 3, .int ((ns.map PyData.int).length : Nat)]) (run_cons run_var (run_one (run_blt (ds := [.list (ns.map PyData.int)]) (run_one run_var) rfl))) mn))) mx
  refine run_fn (run_ret ?_) (by simp [okD])
  unfold lstRg
  show ((blt bMax (consA (cst (.int 1)) (consA (blt bMin (consA (var 1) (consA (blt bLen (consA (var 0) nilA)) nilA))) nilA)) [some (.list (ns.map PyData.int)), some (.int 3)] st).bind _) = _
  rw [e, bind_run]
  have c : (-16777216 : Int) ≤ ((max 1 (min 3 ns.length) : Nat) : Int) ∧ ((max 1 (min 3 ns.length) : Nat) : Int) ≤ 16777216 := ⟨by omega, by omega⟩
  show (if _ then _ else _) = _
  rw [if_pos c, Int.toNat_natCast]
abbrev lapE : ME := andE (app m__law_are_ways_right (consA (var 2) nilA)) (app m__law_is_great_right (consA (var 2) nilA))
theorem lap_run {t k : Nat} {x0 x1 x3 : Option D} {st : Store} (h : PotAt t k st) (ht : t + 8 < 2 ^ 30) : ∃ p, PotAt (t + 8) k (st.set k (some p)) ∧ lapE [x0, x1, some (mref k), x3] st = .ok (.bool true) (st.set k (some p)) := by
  obtain ⟨p, c, e⟩ := ways_right h (by omega)
  obtain ⟨p2, c2, e2⟩ := great_right c (by omega)
  rw [List.set_set] at c2 e2
  refine ⟨p2, c2, ?_⟩
  have a : app m__law_are_ways_right (consA (var 2) nilA) [x0, x1, some (mref k), x3] st = .ok (.bool true) (st.set k (some p)) := run_app (run_one run_var) e
  unfold lapE andE
  rw [a, bind_run, rd_bool, gTru_bool, ofOpt_some, bind_run, if_pos rfl]
  exact run_app (run_one run_var) e2
abbrev placeS : MS := sq (asg 2 (app m__law_pot (consA (var 0) (consA (var 1) nilA))))
    (iff (notT (tru (blt bAll (consA (lc [3] (.nm 3) (iterR1 (consA (cst (.int 2)) nilA)) yesT lapE) nilA)))) (retS (cst (.bool false))) skp)
theorem place_run {ns : List Int} {i : Nat} (hi : i < ns.length ∨ (ns = [] ∧ i = 0)) (hi2 : i < 2 ^ 20) (x2 : Option D) (st : Store) : ∃ x st', placeS [some (.list (ns.map PyData.int)), some (.int i), x2, none] st = .ok (.nx [some (.list (ns.map PyData.int)), some (.int i), x, none]) st' := by
  obtain ⟨st1, c0, e0⟩ := pot_made (c0 := 11251) (c1 := 13529) (c2 := 142034) (c3 := 20613) (c4 := 4304) (by decide) hi hi2 st
  obtain ⟨p1, c1, e1⟩ := lap_run (x0 := some (.list (ns.map PyData.int))) (x1 := some (.int i)) (x3 := some (.int 0)) c0.at_ (by decide)
  obtain ⟨p2, c2, e2⟩ := lap_run (x0 := some (.list (ns.map PyData.int))) (x1 := some (.int i)) (x3 := some (.int 1)) c1 (by decide)
  rw [List.set_set] at e2
  refine ⟨some (mref st.length), st1.set st.length (some p2), ?_⟩
  refine run_sq (ls1 := [some (.list (ns.map PyData.int)), some (.int i), some (mref st.length), none]) (st1 := st1) (run_asg (run_app (run_cons run_var (run_one run_var)) e0)) ?_
  have hlc : lc [3] (.nm 3) (iterR1 (consA (cst (.int 2)) nilA)) yesT lapE [some (.list (ns.map PyData.int)), some (.int i), some (mref st.length), none] st1 = .ok (.list [.bool true, .bool true]) (st1.set st.length (some p2)) := by
    have y : ∀ ls st, yesT ls st = .ok true st := fun _ _ => rfl
    have w : wipeL [some (.list (ns.map PyData.int)), some (.int i), some (mref st.length), none] [3] = [some (.list (ns.map PyData.int)), some (.int i), some (mref st.length), none] := rfl
    unfold lc
    have it : iterR1 (consA (cst (.int 2)) nilA) [some (.list (ns.map PyData.int)), some (.int i), some (mref st.length), none] st1 = .ok [.int 0, .int 1] st1 := rfl
    rw [it, bind_run, w]
    simp only [lcL, tgSet, List.set, y, bind_run, if_true, e1, e2, List.length_nil, List.length_cons]
    rfl
  exact run_iffF (run_not (b := true) (run_tru (x := .bool true) (run_blt (ds := [.list [.bool true, .bool true]]) (run_one hlc) rfl) rfl)) rfl
theorem plain (ns : List Int) (h : ns.length ≤ 63) : ∃ st', m_law [.list (ns.map PyData.int)] [] = .ok (.bool true) st' := by
  have it : iterS (app m__law_cells (consA (var 0) (consA (cst (.int 3)) nilA))) [some (.list (ns.map PyData.int)), none, none, none] [] = .ok ((List.range (max 1 (min 3 ns.length))).map fun i => PyData.int (i : Nat)) [] :=
    run_iterS (run_app (run_cons run_var (run_one run_cst)) (ev_cells ns h []))
  obtain ⟨ls', st', e, ⟨x1, x2, e1, _⟩⟩ := forL_run (g := .nm 1) (body := placeS) (fun i : Nat => PyData.int (i : Nat)) (fun r ls _ => ∃ x1 x2, ls = [some (.list (ns.map PyData.int)), x1, x2, none] ∧ ∀ i ∈ r, i < ns.length ∨ (ns = [] ∧ i = 0))
    (fun i r ls st ⟨x1, x2, e1, hr⟩ => by
      subst e1
      have hi := hr i List.mem_cons_self
      obtain ⟨x, st', e⟩ := place_run hi (by rcases hi with q | q <;> omega) x2 st
      exact ⟨_, _, _, rfl, e, _, _, rfl, fun j hj => hr j (List.mem_cons_of_mem _ hj)⟩)
    (List.range (max 1 (min 3 ns.length))) [some (.list (ns.map PyData.int)), none, none, none] [] ⟨none, none, rfl, fun i hi => by
      have := List.mem_range.mp hi
      by_cases q : ns = []
      · subst q; exact .inr ⟨rfl, by simp at this; omega⟩
      · have : 0 < ns.length := List.length_pos_iff.mpr q
        exact .inl (by omega)⟩
  have f : forS (.nm 1) (iterS (app m__law_cells (consA (var 0) (consA (cst (.int 3)) nilA)))) placeS [some (.list (ns.map PyData.int)), none, none, none] [] = .ok (.nx ls') st' := by
    unfold forS
    rw [it, bind_run, e]
  subst e1
  have body : (sq (forS (.nm 1) (iterS (app m__law_cells (consA (var 0) (consA (cst (.int 3)) nilA)))) placeS) (retS (cst (.bool true)))) (startL 4 [.list (ns.map PyData.int)]) [] = .ok (.rt (.bool true)) st' := run_sq f rfl
  exact ⟨_, run_fnR body (by simp [okD])⟩
end MP.K69

set_option Elab.async false
open PySem PySem.W PyProof.Rows in
set_option maxRecDepth 100000 in
set_option maxHeartbeats 0 in
theorem PySem.Challenge.cw_nobodyknowswhich_k69_whole_margins_by_al_holds : PySem.Challenge.rw_nobodyknowswhich_k69_whole_margins_by_al.Holds := by
  w_on; o_law; k_head; (case hw => w_witness2)
  k_fill
  refine MP.top_walk (m := MP.K69.m_law) (k := 8) (x := "script") (l := PySem.Challenge.rw_nobodyknowswhich_k69_whole_margins_by_al) rfl (by decide) rfl ⟨rfl, by decide, by decide⟩ (fun w h Y => PySem.W.kIn_of Y) ?F ?run
  case F =>
    intro w mg fa h KX G hmg
    have hfa : mg "law" = some (.ref fa) := hmg
    clear hmg
    refine' MP.K69.all_mk KX G hfa ?a0 ?l0 ?c0 ?k0 ?a1 ?l1 ?c1 ?k1 ?a2 ?l2 ?c2 ?k2 ?a3 ?l3 ?c3 ?k3 ?a4 ?l4 ?c4 ?k4 ?a5 ?l5 ?c5 ?k5 ?a6 ?l6 ?c6 ?k6 ?a7 ?l7 ?c7 ?k7 ?a8 ?l8 ?c8 ?k8 ?a9 ?l9 ?c9 ?k9 ?a10 ?l10 ?c10 ?k10 ?a11 ?l11 ?c11 ?k11 ?a12 ?l12 ?c12 ?k12 ?a13 ?l13 ?c13 ?k13 ?a14 ?l14 ?c14 ?k14 ?a15 ?l15 ?c15 ?k15 ?a16 ?l16 ?c16 ?k16 ?a17 ?l17 ?c17 ?k17 ?a18 ?l18 ?c18 ?k18 ?a19 ?l19 ?c19 ?k19 ?a20 ?l20 ?c20 ?k20 ?a21 ?l21 ?c21 ?k21 ?a22 ?l22 ?c22 ?k22 ?a23 ?l23 ?c23 ?k23 ?a24 ?l24 ?c24 ?k24 ?a25 ?l25 ?c25 ?k25 ?a26 ?l26 ?c26 ?k26 ?a27 ?l27 ?c27 ?k27 ?a28 ?l28 ?c28 ?k28 ?a29 ?l29 ?c29 ?k29 ?a30 ?l30 ?c30 ?k30 ?a31 ?l31 ?c31 ?k31 ?a32 ?l32 ?c32 ?k32 ?a33 ?l33 ?c33 ?k33 ?a34 ?l34 ?c34 ?k34 ?a35 ?l35 ?c35 ?k35 ?a36 ?l36 ?c36 ?k36 ?a37 ?l37 ?c37 ?k37 ?a38 ?l38 ?c38 ?k38 ?a39 ?l39 ?c39 ?k39 ?a40 ?l40 ?c40 ?k40 ?a41 ?l41 ?c41 ?k41 ?a42 ?l42 ?c42 ?k42 ?a43 ?l43 ?c43 ?k43 ?a44 ?l44 ?c44 ?k44 ?a45 ?l45 ?c45 ?k45 ?a46 ?l46 ?c46 ?k46 ?a47 ?l47 ?c47 ?k47 ?z_abs ?z_all ?z_bool ?z_int ?z_isinstance ?z_len ?z_list ?z_max ?z_min ?z_range ?z_repr ?z_set ?z_sorted ?z_sum ?z_tuple ?z_zip ?g_MOST_THINGS ?r_MOST_THINGS
    (case a0 => k_is)
    (case l0 => k_is)
    (case c0 => k_is)
    (case k0 => k_is)
    (case a1 => k_is)
    (case l1 => k_is)
    (case c1 => k_is)
    (case k1 => k_is)
    (case a2 => k_is)
    (case l2 => k_is)
    (case c2 => k_is)
    (case k2 => k_is)
    (case a3 => k_is)
    (case l3 => k_is)
    (case c3 => k_is)
    (case k3 => k_is)
    (case a4 => k_is)
    (case l4 => k_is)
    (case c4 => k_is)
    (case k4 => k_is)
    (case a5 => k_is)
    (case l5 => k_is)
    (case c5 => k_is)
    (case k5 => k_is)
    (case a6 => k_is)
    (case l6 => k_is)
    (case c6 => k_is)
    (case k6 => k_is)
    (case a7 => k_is)
    (case l7 => k_is)
    (case c7 => k_is)
    (case k7 => k_is)
    (case a8 => k_is)
    (case l8 => k_is)
    (case c8 => k_is)
    (case k8 => k_is)
    (case a9 => k_is)
    (case l9 => k_is)
    (case c9 => k_is)
    (case k9 => k_is)
    (case a10 => k_is)
    (case l10 => k_is)
    (case c10 => k_is)
    (case k10 => k_is)
    (case a11 => k_is)
    (case l11 => k_is)
    (case c11 => k_is)
    (case k11 => k_is)
    (case a12 => k_is)
    (case l12 => k_is)
    (case c12 => k_is)
    (case k12 => k_is)
    (case a13 => k_is)
    (case l13 => k_is)
    (case c13 => k_is)
    (case k13 => k_is)
    (case a14 => k_is)
    (case l14 => k_is)
    (case c14 => k_is)
    (case k14 => k_is)
    (case a15 => k_is)
    (case l15 => k_is)
    (case c15 => k_is)
    (case k15 => k_is)
    (case a16 => k_is)
    (case l16 => k_is)
    (case c16 => k_is)
    (case k16 => k_is)
    (case a17 => k_is)
    (case l17 => k_is)
    (case c17 => k_is)
    (case k17 => k_is)
    (case a18 => k_is)
    (case l18 => k_is)
    (case c18 => k_is)
    (case k18 => k_is)
    (case a19 => k_is)
    (case l19 => k_is)
    (case c19 => k_is)
    (case k19 => k_is)
    (case a20 => k_is)
    (case l20 => k_is)
    (case c20 => k_is)
    (case k20 => k_is)
    (case a21 => k_is)
    (case l21 => k_is)
    (case c21 => k_is)
    (case k21 => k_is)
    (case a22 => k_is)
    (case l22 => k_is)
    (case c22 => k_is)
    (case k22 => k_is)
    (case a23 => k_is)
    (case l23 => k_is)
    (case c23 => k_is)
    (case k23 => k_is)
    (case a24 => k_is)
    (case l24 => k_is)
    (case c24 => k_is)
    (case k24 => k_is)
    (case a25 => k_is)
    (case l25 => k_is)
    (case c25 => k_is)
    (case k25 => k_is)
    (case a26 => k_is)
    (case l26 => k_is)
    (case c26 => k_is)
    (case k26 => k_is)
    (case a27 => k_is)
    (case l27 => k_is)
    (case c27 => k_is)
    (case k27 => k_is)
    (case a28 => k_is)
    (case l28 => k_is)
    (case c28 => k_is)
    (case k28 => k_is)
    (case a29 => k_is)
    (case l29 => k_is)
    (case c29 => k_is)
    (case k29 => k_is)
    (case a30 => k_is)
    (case l30 => k_is)
    (case c30 => k_is)
    (case k30 => k_is)
    (case a31 => k_is)
    (case l31 => k_is)
    (case c31 => k_is)
    (case k31 => k_is)
    (case a32 => k_is)
    (case l32 => k_is)
    (case c32 => k_is)
    (case k32 => k_is)
    (case a33 => k_is)
    (case l33 => k_is)
    (case c33 => k_is)
    (case k33 => k_is)
    (case a34 => k_is)
    (case l34 => k_is)
    (case c34 => k_is)
    (case k34 => k_is)
    (case a35 => k_is)
    (case l35 => k_is)
    (case c35 => k_is)
    (case k35 => k_is)
    (case a36 => k_is)
    (case l36 => k_is)
    (case c36 => k_is)
    (case k36 => k_is)
    (case a37 => k_is)
    (case l37 => k_is)
    (case c37 => k_is)
    (case k37 => k_is)
    (case a38 => k_is)
    (case l38 => k_is)
    (case c38 => k_is)
    (case k38 => k_is)
    (case a39 => k_is)
    (case l39 => k_is)
    (case c39 => k_is)
    (case k39 => k_is)
    (case a40 => k_is)
    (case l40 => k_is)
    (case c40 => k_is)
    (case k40 => k_is)
    (case a41 => k_is)
    (case l41 => k_is)
    (case c41 => k_is)
    (case k41 => k_is)
    (case a42 => k_is)
    (case l42 => k_is)
    (case c42 => k_is)
    (case k42 => k_is)
    (case a43 => k_is)
    (case l43 => k_is)
    (case c43 => k_is)
    (case k43 => k_is)
    (case a44 => k_is)
    (case l44 => k_is)
    (case c44 => k_is)
    (case k44 => k_is)
    (case a45 => k_is)
    (case l45 => k_is)
    (case c45 => k_is)
    (case k45 => k_is)
    (case a46 => k_is)
    (case l46 => k_is)
    (case c46 => k_is)
    (case k46 => k_is)
    (case a47 => k_is)
    (case l47 => k_is)
    (case c47 => k_is)
    (case k47 => k_is)
    (case z_abs => k_is)
    (case z_all => k_is)
    (case z_bool => k_is)
    (case z_int => k_is)
    (case z_isinstance => k_is)
    (case z_len => k_is)
    (case z_list => k_is)
    (case z_max => k_is)
    (case z_min => k_is)
    (case z_range => k_is)
    (case z_repr => k_is)
    (case z_set => k_is)
    (case z_sorted => k_is)
    (case z_sum => k_is)
    (case z_tuple => k_is)
    (case z_zip => k_is)
    (case g_MOST_THINGS => k_is)
    (case r_MOST_THINGS => exact ⟨_, rfl⟩)
  case run =>
    intro ns hl
    exact MP.K69.plain ns hl
#print axioms PySem.Challenge.cw_nobodyknowswhich_k69_whole_margins_by_al_holds
