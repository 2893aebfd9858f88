import PyProof.Rows.All
import Wide.All
import OpenK.AllK
import Wide.FinOn
import PySem.Challenge.RW_nt0023_01
open PySem PySem.Calls PyProof.Rows PySem.W PySem.SeqAt
set_option maxHeartbeats 0
set_option maxRecDepth 100000
set_option Elab.async false
set_option tactic.hygienic false
set_option genSizeOf false
set_option genInjectivity false
set_option linter.unusedVariables false
set_option linter.unusedSimpArgs false
-- EL
section
namespace Mine
section
variable {A B C D E F H I J K : Prop} {G : Prop}
theorem el02 (h : A∧B) (k : A→B→G) : G := k h.1 h.2
theorem el03 (h : A∧B∧C) (k : A→B→C→G) : G := k h.1 h.2.1 h.2.2
theorem el04 (h : A∧B∧C∧D) (k : A→B→C→D→G) : G := k h.1 h.2.1 h.2.2.1 h.2.2.2
theorem el05 (h : A∧B∧C∧D∧E) (k : A→B→C→D→E→G) : G := k h.1 h.2.1 h.2.2.1 h.2.2.2.1 h.2.2.2.2
theorem el0xa (h : A∧B∧C∧D∧E∧F∧H∧I∧J∧K) (k : A→B→C→D→E→F→H→I→J→K→G) : G := k h.1 h.2.1 h.2.2.1 h.2.2.2.1 h.2.2.2.2.1 h.2.2.2.2.2.1 h.2.2.2.2.2.2.1 h.2.2.2.2.2.2.2.1 h.2.2.2.2.2.2.2.2.1 h.2.2.2.2.2.2.2.2.2
end
section
variable {α0 : Sort _} {A B C D E F : α0→Prop} {G : Prop}
theorem el11 (h : ∃ x,A x) (k : ∀ x,A x→G) : G := h.elim k
theorem el12 (h : ∃ x,A x∧B x) (k : ∀ x,A x→B x→G) : G := h.elim fun x h => k x h.1 h.2
theorem el13 (h : ∃ x,A x∧B x∧C x) (k : ∀ x,A x→B x→C x→G) : G := h.elim fun x h => k x h.1 h.2.1 h.2.2
theorem el14 (h : ∃ x,A x∧B x∧C x∧D x) (k : ∀ x,A x→B x→C x→D x→G) : G := h.elim fun x h => k x h.1 h.2.1 h.2.2.1 h.2.2.2
theorem el15 (h : ∃ x,A x∧B x∧C x∧D x∧E x) (k : ∀ x,A x→B x→C x→D x→E x→G) : G := h.elim fun x h => k x h.1 h.2.1 h.2.2.1 h.2.2.2.1 h.2.2.2.2
theorem el16 (h : ∃ x,A x∧B x∧C x∧D x∧E x∧F x) (k : ∀ x,A x→B x→C x→D x→E x→F x→G) : G := h.elim fun x h => k x h.1 h.2.1 h.2.2.1 h.2.2.2.1 h.2.2.2.2.1 h.2.2.2.2.2
end
section
variable {α0 α1 : Sort _} {A B C D E F H I J K L M : α0→α1→Prop} {G : Prop}
theorem el21 (h : ∃ x y,A x y) (k : ∀ x y,A x y→G) : G := h.elim fun x h => h.elim fun y h => k x y h
theorem el22 (h : ∃ x y,A x y∧B x y) (k : ∀ x y,A x y→B x y→G) : G := h.elim fun x h => h.elim fun y h => k x y h.1 h.2
theorem el23 (h : ∃ x y,A x y∧B x y∧C x y) (k : ∀ x y,A x y→B x y→C x y→G) : G := h.elim fun x h => h.elim fun y h => k x y h.1 h.2.1 h.2.2
theorem el24 (h : ∃ x y,A x y∧B x y∧C x y∧D x y) (k : ∀ x y,A x y→B x y→C x y→D x y→G) : G := h.elim fun x h => h.elim fun y h => k x y h.1 h.2.1 h.2.2.1 h.2.2.2
theorem el25 (h : ∃ x y,A x y∧B x y∧C x y∧D x y∧E x y) (k : ∀ x y,A x y→B x y→C x y→D x y→E x y→G) : G := h.elim fun x h => h.elim fun y h => k x y h.1 h.2.1 h.2.2.1 h.2.2.2.1 h.2.2.2.2
theorem el26 (h : ∃ x y,A x y∧B x y∧C x y∧D x y∧E x y∧F x y) (k : ∀ x y,A x y→B x y→C x y→D x y→E x y→F x y→G) : G := h.elim fun x h => h.elim fun y h => k x y h.1 h.2.1 h.2.2.1 h.2.2.2.1 h.2.2.2.2.1 h.2.2.2.2.2
theorem el2xc (h : ∃ x y,A x y∧B x y∧C x y∧D x y∧E x y∧F x y∧H x y∧I x y∧J x y∧K x y∧L x y∧M x y) (k : ∀ x y,A x y→B x y→C x y→D x y→E x y→F x y→H x y→I x y→J x y→K x y→L x y→M x y→G) : G := h.elim fun x h => h.elim fun y h => k x y h.1 h.2.1 h.2.2.1 h.2.2.2.1 h.2.2.2.2.1 h.2.2.2.2.2.1 h.2.2.2.2.2.2.1 h.2.2.2.2.2.2.2.1 h.2.2.2.2.2.2.2.2.1 h.2.2.2.2.2.2.2.2.2.1 h.2.2.2.2.2.2.2.2.2.2.1 h.2.2.2.2.2.2.2.2.2.2.2
end
section
variable {α0 α1 α2 : Sort _} {A B C D E F H I : α0→α1→α2→Prop} {G : Prop}
theorem el31 (h : ∃ x y z,A x y z) (k : ∀ x y z,A x y z→G) : G := h.elim fun x h => h.elim fun y h => h.elim fun z h => k x y z h
theorem el32 (h : ∃ x y z,A x y z∧B x y z) (k : ∀ x y z,A x y z→B x y z→G) : G := h.elim fun x h => h.elim fun y h => h.elim fun z h => k x y z h.1 h.2
theorem el33 (h : ∃ x y z,A x y z∧B x y z∧C x y z) (k : ∀ x y z,A x y z→B x y z→C x y z→G) : G := h.elim fun x h => h.elim fun y h => h.elim fun z h => k x y z h.1 h.2.1 h.2.2
theorem el34 (h : ∃ x y z,A x y z∧B x y z∧C x y z∧D x y z) (k : ∀ x y z,A x y z→B x y z→C x y z→D x y z→G) : G := h.elim fun x h => h.elim fun y h => h.elim fun z h => k x y z h.1 h.2.1 h.2.2.1 h.2.2.2
theorem el35 (h : ∃ x y z,A x y z∧B x y z∧C x y z∧D x y z∧E x y z) (k : ∀ x y z,A x y z→B x y z→C x y z→D x y z→E x y z→G) : G := h.elim fun x h => h.elim fun y h => h.elim fun z h => k x y z h.1 h.2.1 h.2.2.1 h.2.2.2.1 h.2.2.2.2
theorem el36 (h : ∃ x y z,A x y z∧B x y z∧C x y z∧D x y z∧E x y z∧F x y z) (k : ∀ x y z,A x y z→B x y z→C x y z→D x y z→E x y z→F x y z→G) : G := h.elim fun x h => h.elim fun y h => h.elim fun z h => k x y z h.1 h.2.1 h.2.2.1 h.2.2.2.1 h.2.2.2.2.1 h.2.2.2.2.2
theorem el38 (h : ∃ x y z,A x y z∧B x y z∧C x y z∧D x y z∧E x y z∧F x y z∧H x y z∧I x y z) (k : ∀ x y z,A x y z→B x y z→C x y z→D x y z→E x y z→F x y z→H x y z→I x y z→G) : G := h.elim fun x h => h.elim fun y h => h.elim fun z h => k x y z h.1 h.2.1 h.2.2.1 h.2.2.2.1 h.2.2.2.2.1 h.2.2.2.2.2.1 h.2.2.2.2.2.2.1 h.2.2.2.2.2.2.2
end
section
variable {α0 α1 α2 α3 : Sort _} {A B C D : α0→α1→α2→α3→Prop} {G : Prop}
theorem el41 (h : ∃ x y z u,A x y z u) (k : ∀ x y z u,A x y z u→G) : G := h.elim fun x h => h.elim fun y h => h.elim fun z h => h.elim fun u h => k x y z u h
theorem el43 (h : ∃ x y z u,A x y z u∧B x y z u∧C x y z u) (k : ∀ x y z u,A x y z u→B x y z u→C x y z u→G) : G := h.elim fun x h => h.elim fun y h => h.elim fun z h => h.elim fun u h => k x y z u h.1 h.2.1 h.2.2
theorem el44 (h : ∃ x y z u,A x y z u∧B x y z u∧C x y z u∧D x y z u) (k : ∀ x y z u,A x y z u→B x y z u→C x y z u→D x y z u→G) : G := h.elim fun x h => h.elim fun y h => h.elim fun z h => h.elim fun u h => k x y z u h.1 h.2.1 h.2.2.1 h.2.2.2
end
section
variable {α0 α1 α2 α3 α4 : Sort _} {A B C : α0→α1→α2→α3→α4→Prop} {G : Prop}
theorem el53 (h : ∃ x y z u v,A x y z u v∧B x y z u v∧C x y z u v) (k : ∀ x y z u v,A x y z u v→B x y z u v→C x y z u v→G) : G := h.elim fun x h => h.elim fun y h => h.elim fun z h => h.elim fun u h => h.elim fun v h => k x y z u v h.1 h.2.1 h.2.2
end
section
variable {α0 α1 α2 α3 α4 α5 α6 : Sort _} {A B C : α0→α1→α2→α3→α4→α5→α6→Prop} {G : Prop}
theorem el71 (h : ∃ x y z u v w s,A x y z u v w s) (k : ∀ x y z u v w s,A x y z u v w s→G) : G := h.elim fun x h => h.elim fun y h => h.elim fun z h => h.elim fun u h => h.elim fun v h => h.elim fun w h => h.elim fun s h => k x y z u v w s h
theorem el73 (h : ∃ x y z u v w s,A x y z u v w s∧B x y z u v w s∧C x y z u v w s) (k : ∀ x y z u v w s,A x y z u v w s→B x y z u v w s→C x y z u v w s→G) : G := h.elim fun x h => h.elim fun y h => h.elim fun z h => h.elim fun u h => h.elim fun v h => h.elim fun w h => h.elim fun s h => k x y z u v w s h.1 h.2.1 h.2.2
end
end Mine
end

-- LN
section
namespace Mine
inductive LTm where
  | v (i : Nat) | w (i : Nat) | n (k : Nat) | a (x y : LTm) | s (x y : LTm) | g (x : LTm) | c (x : LTm) | m (k : Nat) (x : LTm) | r (x : LTm) (k : Nat)
inductive LFc where
  | le (x y : LTm) | lt (x y : LTm) | eq (x y : LTm) | qe (x y : LTm) | zle (x y : LTm) | zlt (x y : LTm) | zeq (x y : LTm) | zqe (x y : LTm) | no
noncomputable def atD {α : Type} (d : α) : List α → Nat → α
  | [], _ => d
  | a :: _, 0 => a
  | _ :: l, i + 1 => atD d l i
noncomputable def LTm.N (ρ : List Nat) : LTm → Nat
  | .v i => atD 0 ρ i
  | .n k => k
  | .a x y => x.N ρ + y.N ρ
  | .m k x => k * x.N ρ
  | .r x k => x.N ρ * k
  | _ => 0
noncomputable def LTm.Z (ρ : List Nat) (σ : List Int) : LTm → Int
  | .w i => atD 0 σ i
  | .n k => Int.ofNat k
  | .a x y => x.Z ρ σ + y.Z ρ σ
  | .s x y => x.Z ρ σ - y.Z ρ σ
  | .g x => -x.Z ρ σ
  | .m k x => Int.ofNat k * x.Z ρ σ
  | .r x k => x.Z ρ σ * Int.ofNat k
  | .c x => (x.N ρ : Int)
  | _ => 0
noncomputable def LFc.D (ρ : List Nat) (σ : List Int) : LFc → Prop
  | .le x y => x.N ρ ≤ y.N ρ
  | .lt x y => x.N ρ < y.N ρ
  | .eq x y => x.N ρ = y.N ρ
  | .qe x y => x.N ρ = y.N ρ
  | .zle x y => x.Z ρ σ ≤ y.Z ρ σ
  | .zlt x y => x.Z ρ σ < y.Z ρ σ
  | .zeq x y => x.Z ρ σ = y.Z ρ σ
  | .zqe x y => x.Z ρ σ = y.Z ρ σ
  | .no => False
noncomputable def ldec : Nat → Nat → List LTm → LFc
  | 0, _, _ => .no
  | f + 1, c, st =>
    bif (c % 40).blt 8 then ldec f (c / 40) (.v (c % 40) :: st)
    else bif (c % 40).blt 13 then ldec f (c / 40) (.w (c % 40 - 8) :: st)
    else bif (c % 40).beq 13 then ldec f (c / 2560000) (.n (c / 40 % 64000) :: st)
    else bif (c % 40).beq 14 then ldec f (c / 1600) (.n (c / 40 % 40) :: st)
    else bif (c % 40).beq 15 then ldec f (c / 4096000000) (.n (c / 40 % 102400000) :: st)
    else match st with
    | [] => .no
    | y :: s =>
      bif (c % 40).beq 18 then ldec f (c / 40) (.g y :: s)
      else bif (c % 40).beq 19 then ldec f (c / 40) (.c y :: s)
      else match s with
      | [] => .no
      | x :: s =>
        bif (c % 40).beq 16 then ldec f (c / 40) (.a x y :: s)
        else bif (c % 40).beq 17 then ldec f (c / 40) (.s x y :: s)
        else bif (c % 40).beq 20 then (match x with | .n k => ldec f (c / 40) (.m k y :: s) | _ => .no)
        else bif (c % 40).beq 21 then (match y with | .n k => ldec f (c / 40) (.r x k :: s) | _ => .no)
        else bif (c % 40).beq 22 then .le x y
        else bif (c % 40).beq 23 then .lt x y
        else bif (c % 40).beq 24 then .eq x y
        else bif (c % 40).beq 25 then .qe x y
        else bif (c % 40).beq 26 then .zle x y
        else bif (c % 40).beq 27 then .zlt x y
        else bif (c % 40).beq 28 then .zeq x y
        else bif (c % 40).beq 29 then .zqe x y
        else .no
noncomputable def lfact (c : Nat) : LFc := ldec 40 (c / 40) []
noncomputable def FD (c : Nat) (ρ : List Nat) (σ : List Int) : Prop := (lfact c).D ρ σ
structure Fm where
  k : Int
  p : List Int
  q : List Int
noncomputable def addL : List Int → List Int → List Int
  | [], l => l
  | a :: l, [] => a :: l
  | a :: l, b :: m => (a + b) :: addL l m
noncomputable def unitL : Nat → List Int
  | 0 => [1]
  | i + 1 => 0 :: unitL i
noncomputable def Fm.add (x y : Fm) : Fm := ⟨x.k + y.k, addL x.p y.p, addL x.q y.q⟩
noncomputable def Fm.mul (a : Int) (x : Fm) : Fm := ⟨a * x.k, x.p.map (a * ·), x.q.map (a * ·)⟩
noncomputable def LTm.NL : LTm → Fm
  | .v i => ⟨0, unitL i, []⟩
  | .n k => ⟨k, [], []⟩
  | .a x y => x.NL.add y.NL
  | .m k x => x.NL.mul k
  | .r x k => x.NL.mul k
  | _ => ⟨0, [], []⟩
noncomputable def LTm.ZL : LTm → Fm
  | .w i => ⟨0, [], unitL i⟩
  | .n k => ⟨k, [], []⟩
  | .a x y => x.ZL.add y.ZL
  | .s x y => x.ZL.add (y.ZL.mul (-1))
  | .g x => x.ZL.mul (-1)
  | .m k x => x.ZL.mul k
  | .r x k => x.ZL.mul k
  | .c x => x.NL
  | _ => ⟨0, [], []⟩
noncomputable def sub0 (x y : Fm) : Fm := y.add (x.mul (-1))
noncomputable def sub1 (x y : Fm) : Fm := (sub0 x y).add ⟨-1, [], []⟩
noncomputable def LFc.S : LFc → Fm
  | .le x y => sub0 x.NL y.NL
  | .lt x y => sub1 x.NL y.NL
  | .eq x y => sub0 x.NL y.NL
  | .qe x y => sub0 y.NL x.NL
  | .zle x y => sub0 x.ZL y.ZL
  | .zlt x y => sub1 x.ZL y.ZL
  | .zeq x y => sub0 x.ZL y.ZL
  | .zqe x y => sub0 y.ZL x.ZL
  | .no => ⟨0, [], []⟩
noncomputable def LFc.G : LFc → Fm
  | .le x y => sub1 y.NL x.NL
  | .lt x y => sub0 y.NL x.NL
  | .zle x y => sub1 y.ZL x.ZL
  | .zlt x y => sub0 y.ZL x.ZL
  | _ => ⟨0, [], []⟩
noncomputable def Fm.neg (x : Fm) : Bool := decide (x.k < 0) && x.p.all (fun a => decide (a ≤ 0)) && x.q.all (fun a => decide (a = 0))
noncomputable def lsum : List Nat → Fm
  | [] => ⟨0, [], []⟩
  | c :: l => ((lfact c).S.mul ((c % 40 : Nat) : Int)).add (lsum l)
noncomputable def lchk (g : Nat) (fs : List Nat) : Bool := (((lfact g).G.mul ((g % 40 : Nat) : Int)).add (lsum fs)).neg
noncomputable def dot : List Int → List Int → Int
  | a :: l, b :: m => a * b + dot l m
  | _, _ => 0
noncomputable def natsL (ρ : List Nat) : List Int := ρ.map Int.ofNat
noncomputable def Fm.ev (x : Fm) (ρ : List Nat) (σ : List Int) : Int := x.k + (dot x.p (natsL ρ) + dot x.q σ)
theorem aacc (a b c d : Int) : a + b + (c + d) = a + c + (b + d) := by rw [Int.add_assoc, Int.add_assoc, Int.add_left_comm b]
theorem dot_add (x y m : List Int) : dot (addL x y) m = dot x m + dot y m := by
  induction x generalizing y m with
  | nil => rw [show dot [] m = 0 by cases m <;> rfl, Int.zero_add]; rfl
  | cons a l ih =>
    cases y with
    | nil => rw [show dot [] m = 0 by cases m <;> rfl, Int.add_zero]; rfl
    | cons b k =>
      cases m with
      | nil => rfl
      | cons z m => show (a + b) * z + dot (addL l k) m = _; rw [ih, Int.add_mul]; exact aacc ..
theorem dot_mul (a : Int) (x m : List Int) : dot (x.map (a * ·)) m = a * dot x m := by
  induction x generalizing m with
  | nil => exact (Int.mul_zero a).symm
  | cons b l ih =>
    cases m with
    | nil => exact (Int.mul_zero a).symm
    | cons z m => show a * b * z + dot (l.map (a * ·)) m = _; rw [ih, Int.mul_assoc, ← Int.mul_add]; rfl
theorem dot_unit (i : Nat) (m : List Int) : dot (unitL i) m = atD 0 m i := by
  induction i generalizing m with
  | zero =>
    cases m with
    | nil => rfl
    | cons z m => show 1 * z + dot [] m = z; rw [show dot [] m = 0 by cases m <;> rfl, Int.add_zero, Int.one_mul]
  | succ i ih =>
    cases m with
    | nil => rfl
    | cons z m => show 0 * z + dot (unitL i) m = _; rw [ih, Int.zero_mul, Int.zero_add]; rfl
theorem nats_at (ρ : List Nat) (i : Nat) : atD 0 (natsL ρ) i = ((atD 0 ρ i : Nat) : Int) := by
  induction ρ generalizing i with
  | nil => rfl
  | cons a l ih => cases i with
    | zero => rfl
    | succ i => exact ih i
section
variable (ρ : List Nat) (σ : List Int)
theorem ev_add (x y : Fm) : (x.add y).ev ρ σ = x.ev ρ σ + y.ev ρ σ := by
  show x.k + y.k + (dot (addL x.p y.p) _ + dot (addL x.q y.q) _) = _
  rw [dot_add, dot_add, aacc (dot x.p _)]; exact aacc ..
theorem ev_mul (a : Int) (x : Fm) : (x.mul a).ev ρ σ = a * x.ev ρ σ := by
  show a * x.k + (dot (x.p.map (a * ·)) _ + dot (x.q.map (a * ·)) _) = _
  rw [dot_mul, dot_mul, ← Int.mul_add, ← Int.mul_add]; rfl
theorem ev_k (k : Int) : (Fm.mk k [] []).ev ρ σ = k := by
  show k + (dot [] (natsL ρ) + dot [] σ) = k
  rw [show dot [] (natsL ρ) = 0 by cases natsL ρ <;> rfl, show dot [] σ = 0 by cases σ <;> rfl]
  exact Int.add_zero k
theorem NL_ev (t : LTm) : t.NL.ev ρ σ = ((t.N ρ : Nat) : Int) := by
  induction t with
  | v i => show 0 + (dot (unitL i) (natsL ρ) + dot [] σ) = _; rw [dot_unit, nats_at, show dot [] σ = 0 by cases σ <;> rfl, Int.add_zero, Int.zero_add]; rfl
  | n k => exact ev_k ρ σ k
  | a x y hx hy => exact (ev_add ..).trans (by rw [hx, hy]; rfl)
  | m k x hx => exact (ev_mul ..).trans (by rw [hx]; rfl)
  | r x k hx => exact (ev_mul ..).trans (by rw [hx, Int.mul_comm]; rfl)
  | _ => exact ev_k ρ σ 0
theorem ZL_ev (t : LTm) : t.ZL.ev ρ σ = t.Z ρ σ := by
  induction t with
  | w i => show 0 + (dot [] (natsL ρ) + dot (unitL i) σ) = _; rw [dot_unit, show dot [] (natsL ρ) = 0 by cases natsL ρ <;> rfl, Int.zero_add, Int.zero_add]; rfl
  | n k => exact ev_k ρ σ k
  | a x y hx hy => exact (ev_add ..).trans (by rw [hx, hy]; rfl)
  | s x y hx hy => exact (ev_add ..).trans (by rw [ev_mul, hx, hy, Int.neg_one_mul]; rfl)
  | g x hx => exact (ev_mul ..).trans (by rw [hx, Int.neg_one_mul]; rfl)
  | m k x hx => exact (ev_mul ..).trans (by rw [hx]; rfl)
  | r x k hx => exact (ev_mul ..).trans (by rw [hx, Int.mul_comm]; rfl)
  | c x _ => exact NL_ev ρ σ x
  | _ => exact ev_k ρ σ 0
theorem sub0_ev {x y : Fm} (h : x.ev ρ σ ≤ y.ev ρ σ) : 0 ≤ (sub0 x y).ev ρ σ := by
  rw [show (sub0 x y).ev ρ σ = _ from ev_add .., ev_mul, Int.neg_one_mul];exact Int.sub_nonneg_of_le h
theorem sub1_ev {x y : Fm} (h : x.ev ρ σ < y.ev ρ σ) : 0 ≤ (sub1 x y).ev ρ σ := by
  rw [show (sub1 x y).ev ρ σ = _ from ev_add .., ev_k, show (sub0 x y).ev ρ σ = _ from ev_add .., ev_mul, Int.neg_one_mul];have := Int.add_one_le_of_lt h
  omega
theorem LFc.S_ev (f : LFc) (h : f.D ρ σ) : 0 ≤ f.S.ev ρ σ := by
  cases f with
  | no => exact h.elim
  | le x y => exact sub0_ev ρ σ (by rw [NL_ev, NL_ev]; exact Int.ofNat_le.2 h)
  | lt x y => exact sub1_ev ρ σ (by rw [NL_ev, NL_ev]; exact Int.ofNat_lt.2 h)
  | eq x y => exact sub0_ev ρ σ (by rw [NL_ev, NL_ev]; exact Int.ofNat_le.2 (Nat.le_of_eq h))
  | qe x y => exact sub0_ev ρ σ (by rw [NL_ev, NL_ev]; exact Int.ofNat_le.2 (Nat.le_of_eq h.symm))
  | zle x y => exact sub0_ev ρ σ (by rw [ZL_ev, ZL_ev]; exact h)
  | zlt x y => exact sub1_ev ρ σ (by rw [ZL_ev, ZL_ev]; exact h)
  | zeq x y => exact sub0_ev ρ σ (by rw [ZL_ev, ZL_ev]; exact Int.le_of_eq h)
  | zqe x y => exact sub0_ev ρ σ (by rw [ZL_ev, ZL_ev]; exact Int.le_of_eq h.symm)
theorem LFc.G_ev (f : LFc) (h : ¬ f.D ρ σ) : 0 ≤ f.G.ev ρ σ := by
  cases f with
  | le x y => exact sub1_ev ρ σ (by rw [NL_ev, NL_ev]; exact Int.ofNat_lt.2 (Nat.lt_of_not_le h))
  | lt x y => exact sub0_ev ρ σ (by rw [NL_ev, NL_ev]; exact Int.ofNat_le.2 (Nat.le_of_not_lt h))
  | zle x y => exact sub1_ev ρ σ (by rw [ZL_ev, ZL_ev]; exact Int.lt_of_not_ge h)
  | zlt x y => exact sub0_ev ρ σ (by rw [ZL_ev, ZL_ev]; exact Int.not_lt.1 h)
  | _ => exact Int.le_of_eq (ev_k ρ σ 0).symm
theorem dot_neg (l : List Int) (h : l.all (fun a => decide (a ≤ 0)) = true) : dot l (natsL ρ) ≤ 0 := by
  induction l generalizing ρ with
  | nil => rw [show dot [] (natsL ρ) = 0 by cases natsL ρ <;> rfl]; exact Int.le_refl 0
  | cons a l ih =>
    cases ρ with
    | nil => exact Int.le_refl 0
    | cons b ρ =>
      obtain ⟨h1, h2⟩ := Bool.and_eq_true_iff.1 h;exact Int.add_nonpos (Int.mul_nonpos_of_nonpos_of_nonneg (of_decide_eq_true h1) (Int.natCast_nonneg b)) (ih ρ h2)
theorem dot_zero (l m : List Int) (h : l.all (fun a => decide (a = 0)) = true) : dot l m = 0 := by
  induction l generalizing m with
  | nil => cases m <;> rfl
  | cons a l ih =>
    cases m with
    | nil => rfl
    | cons b m =>
      obtain ⟨h1, h2⟩ := Bool.and_eq_true_iff.1 h
      show a * b + dot l m = 0
      rw [ih m h2, of_decide_eq_true h1, Int.zero_mul]; rfl
theorem neg_ev (x : Fm) (h : x.neg = true) : x.ev ρ σ < 0 := by
  obtain ⟨h, h3⟩ := Bool.and_eq_true_iff.1 h;obtain ⟨h1, h2⟩ := Bool.and_eq_true_iff.1 h
  show x.k + (dot x.p _ + dot x.q _) < 0
  rw [dot_zero x.q σ h3, Int.add_zero];exact Int.add_neg_of_neg_of_nonpos (of_decide_eq_true h1) (dot_neg ρ x.p h2)
noncomputable def allF : List Nat → Prop
  | [] => True
  | c :: l => FD c ρ σ ∧ allF l
theorem lsum_ev (fs : List Nat) (h : allF ρ σ fs) : 0 ≤ (lsum fs).ev ρ σ := by
  induction fs with
  | nil => exact Int.le_of_eq (ev_k ρ σ 0).symm
  | cons c l ih =>
    show 0 ≤ (((lfact c).S.mul ((c % 40 : Nat) : Int)).add (lsum l)).ev ρ σ
    rw [ev_add, ev_mul];exact Int.add_nonneg (Int.mul_nonneg (Int.natCast_nonneg _) (LFc.S_ev ρ σ _ h.1)) (ih h.2)
theorem lnL {g : Nat} {fs : List Nat} (hc : lchk g fs = true) (h : allF ρ σ fs) : FD g ρ σ :=
  Classical.byContradiction fun hg => by
    have h1 := neg_ev ρ σ _ hc;rw [ev_add, ev_mul] at h1;exact absurd h1 (Int.not_lt.2 (Int.add_nonneg (Int.mul_nonneg (Int.natCast_nonneg _) (LFc.G_ev ρ σ _ hg)) (lsum_ev ρ σ fs h)))
end
variable {ρ : List Nat} {σ : List Int} {a b c d e f i j : Nat}
theorem ln0 (g : Nat) (ρ : List Nat) (σ : List Int) (hc : lchk g [] = true := by kernel_rfl) : FD g ρ σ := lnL ρ σ hc trivial
theorem ln1 (g a : Nat) (ρ : List Nat) (σ : List Int) (ha : FD a ρ σ) (hc : lchk g [a] = true := by kernel_rfl) : FD g ρ σ := lnL ρ σ hc ⟨ha, trivial⟩
theorem ln2 (g a b : Nat) (ρ : List Nat) (σ : List Int) (ha : FD a ρ σ) (hb : FD b ρ σ) (hc : lchk g [a, b] = true := by kernel_rfl) : FD g ρ σ := lnL ρ σ hc ⟨ha, hb, trivial⟩
theorem ln3 (g a b c : Nat) (ρ : List Nat) (σ : List Int) (ha : FD a ρ σ) (hb : FD b ρ σ) (h3 : FD c ρ σ) (hc : lchk g [a, b, c] = true := by kernel_rfl) : FD g ρ σ := lnL ρ σ hc ⟨ha, hb, h3, trivial⟩
theorem ln4 (g a b c d : Nat) (ρ : List Nat) (σ : List Int) (ha : FD a ρ σ) (hb : FD b ρ σ) (h3 : FD c ρ σ) (h4 : FD d ρ σ) (hc : lchk g [a, b, c, d] = true := by kernel_rfl) : FD g ρ σ := lnL ρ σ hc ⟨ha, hb, h3, h4, trivial⟩
theorem ln5 (g a b c d e : Nat) (ρ : List Nat) (σ : List Int) (ha : FD a ρ σ) (hb : FD b ρ σ) (h3 : FD c ρ σ) (h4 : FD d ρ σ) (h5 : FD e ρ σ) (hc : lchk g [a, b, c, d, e] = true := by kernel_rfl) : FD g ρ σ := lnL ρ σ hc ⟨ha, hb, h3, h4, h5, trivial⟩
theorem ln6 (g a b c d e f : Nat) (ρ : List Nat) (σ : List Int) (ha : FD a ρ σ) (hb : FD b ρ σ) (h3 : FD c ρ σ) (h4 : FD d ρ σ) (h5 : FD e ρ σ) (h6 : FD f ρ σ) (hc : lchk g [a, b, c, d, e, f] = true := by kernel_rfl) : FD g ρ σ := lnL ρ σ hc ⟨ha, hb, h3, h4, h5, h6, trivial⟩
theorem ifs {α : Type} {c : Prop} [Decidable c] {x : Option α} {r : α} {P : Prop} (k : c → x = some r → P) (e : (if c then x else none) = some r) : P :=
  if h : c then k h (by rwa [if_pos h] at e) else by rw [if_neg h] at e; cases e
theorem ifn {α : Type} {c : Prop} [Decidable c] {x : Option α} {r : α} {P : Prop} (k : ¬ c → x = some r → P) (e : (if c then none else x) = some r) : P :=
  if h : c then by rw [if_pos h] at e; cases e else k h (by rwa [if_neg h] at e)
theorem nn {α : Type} {a : α} {P : Prop} (e : none = some a) : P := nomatch e
theorem sm1 {α : Type} {a : α} {P : α → Prop} (h : P a) : ∀ c, some a = some c → P c := fun O e => by cases e; exact h
theorem sm2 {α β : Type} {a : α} {b : β} {P : α → β → Prop} (h : P a b) : ∀ c d, some (a, b) = some (c, d) → P c d := fun O O e => by cases e; exact h
theorem sm3 {α β γ : Type} {a : α} {b : β} {c : γ} {P : α → β → γ → Prop} (h : P a b c) : ∀ a' b' c', some (a, b, c) = some (a', b', c') → P a' b' c' := fun O O O e => by cases e; exact h
theorem ff {P : Prop} (e : false = true) : P := nomatch e
theorem lm {α β : Type} {f : α → β} {l : List α} {n : Nat} (h : l.length ≤ n) : (l.map f).length ≤ n := by rw [List.length_map]; exact h
theorem omi {α β : Type} {f : α → β} {o : Option α} {r : β} {P : Prop} (k : ∀ a, o = some a → f a = r → P) (e : o.map f = some r) : P := by
  cases o with
  | none => cases e
  | some a => exact k a rfl (Option.some.inj e)
theorem opi {α γ β : Type} {f : α × γ → β} {o : Option (α × γ)} {r : β} {P : Prop} (k : ∀ a b, o = some (a, b) → f (a, b) = r → P) (e : o.map f = some r) : P := omi (fun q => k q.1 q.2) e
end Mine
end

-- IN
namespace Mine
theorem in03 {A B C : Prop} (h0 : A) (h1 : B) (h2 : C) : A∧B∧C := ⟨h0, h1, h2⟩
theorem in04 {A B C D : Prop} (h0 : A) (h1 : B) (h2 : C) (h3 : D) : A∧B∧C∧D := ⟨h0, h1, h2, h3⟩
theorem in05 {A B C D E : Prop} (h0 : A) (h1 : B) (h2 : C) (h3 : D) (h4 : E) : A∧B∧C∧D∧E := ⟨h0, h1, h2, h3, h4⟩
theorem in12 {α0 : Sort _} {A B : α0→Prop} (x : α0) (h0 : A x) (h1 : B x) : ∃ x,A x∧B x := ⟨x, h0, h1⟩
theorem in13 {α0 : Sort _} {A B C : α0→Prop} (x : α0) (h0 : A x) (h1 : B x) (h2 : C x) : ∃ x,A x∧B x∧C x := ⟨x, h0, h1, h2⟩
theorem in14 {α0 : Sort _} {A B C D : α0→Prop} (x : α0) (h0 : A x) (h1 : B x) (h2 : C x) (h3 : D x) : ∃ x,A x∧B x∧C x∧D x := ⟨x, h0, h1, h2, h3⟩
theorem in15 {α0 : Sort _} {A B C D E : α0→Prop} (x : α0) (h0 : A x) (h1 : B x) (h2 : C x) (h3 : D x) (h4 : E x) : ∃ x,A x∧B x∧C x∧D x∧E x := ⟨x, h0, h1, h2, h3, h4⟩
theorem in21 {α0 α1 : Sort _} {A : α0→α1→Prop} (x : α0) (y : α1) (h0 : A x y) : ∃ x y,A x y := ⟨x, y, h0⟩
theorem in22 {α0 α1 : Sort _} {A B : α0→α1→Prop} (x : α0) (y : α1) (h0 : A x y) (h1 : B x y) : ∃ x y,A x y∧B x y := ⟨x, y, h0, h1⟩
theorem in23 {α0 α1 : Sort _} {A B C : α0→α1→Prop} (x : α0) (y : α1) (h0 : A x y) (h1 : B x y) (h2 : C x y) : ∃ x y,A x y∧B x y∧C x y := ⟨x, y, h0, h1, h2⟩
theorem in24 {α0 α1 : Sort _} {A B C D : α0→α1→Prop} (x : α0) (y : α1) (h0 : A x y) (h1 : B x y) (h2 : C x y) (h3 : D x y) : ∃ x y,A x y∧B x y∧C x y∧D x y := ⟨x, y, h0, h1, h2, h3⟩
theorem in25 {α0 α1 : Sort _} {A B C D E : α0→α1→Prop} (x : α0) (y : α1) (h0 : A x y) (h1 : B x y) (h2 : C x y) (h3 : D x y) (h4 : E x y) : ∃ x y,A x y∧B x y∧C x y∧D x y∧E x y := ⟨x, y, h0, h1, h2, h3, h4⟩
theorem in27 {α0 α1 : Sort _} {A B C D E F H : α0→α1→Prop} (x : α0) (y : α1) (h0 : A x y) (h1 : B x y) (h2 : C x y) (h3 : D x y) (h4 : E x y) (h5 : F x y) (h6 : H x y) : ∃ x y,A x y∧B x y∧C x y∧D x y∧E x y∧F x y∧H x y := ⟨x, y, h0, h1, h2, h3, h4, h5, h6⟩
theorem in2xc {α0 α1 : Sort _} {A B C D E F H I J K L M : α0→α1→Prop} (x : α0) (y : α1) (h0 : A x y) (h1 : B x y) (h2 : C x y) (h3 : D x y) (h4 : E x y) (h5 : F x y) (h6 : H x y) (h7 : I x y) (h8 : J x y) (h9 : K x y) (h10 : L x y) (h11 : M x y) : ∃ x y,A x y∧B x y∧C x y∧D x y∧E x y∧F x y∧H x y∧I x y∧J x y∧K x y∧L x y∧M x y := ⟨x, y, h0, h1, h2, h3, h4, h5, h6, h7, h8, h9, h10, h11⟩
theorem in31 {α0 α1 α2 : Sort _} {A : α0→α1→α2→Prop} (x : α0) (y : α1) (z : α2) (h0 : A x y z) : ∃ x y z,A x y z := ⟨x, y, z, h0⟩
theorem in32 {α0 α1 α2 : Sort _} {A B : α0→α1→α2→Prop} (x : α0) (y : α1) (z : α2) (h0 : A x y z) (h1 : B x y z) : ∃ x y z,A x y z∧B x y z := ⟨x, y, z, h0, h1⟩
theorem in33 {α0 α1 α2 : Sort _} {A B C : α0→α1→α2→Prop} (x : α0) (y : α1) (z : α2) (h0 : A x y z) (h1 : B x y z) (h2 : C x y z) : ∃ x y z,A x y z∧B x y z∧C x y z := ⟨x, y, z, h0, h1, h2⟩
theorem in34 {α0 α1 α2 : Sort _} {A B C D : α0→α1→α2→Prop} (x : α0) (y : α1) (z : α2) (h0 : A x y z) (h1 : B x y z) (h2 : C x y z) (h3 : D x y z) : ∃ x y z,A x y z∧B x y z∧C x y z∧D x y z := ⟨x, y, z, h0, h1, h2, h3⟩
theorem in36 {α0 α1 α2 : Sort _} {A B C D E F : α0→α1→α2→Prop} (x : α0) (y : α1) (z : α2) (h0 : A x y z) (h1 : B x y z) (h2 : C x y z) (h3 : D x y z) (h4 : E x y z) (h5 : F x y z) : ∃ x y z,A x y z∧B x y z∧C x y z∧D x y z∧E x y z∧F x y z := ⟨x, y, z, h0, h1, h2, h3, h4, h5⟩
theorem in38 {α0 α1 α2 : Sort _} {A B C D E F H I : α0→α1→α2→Prop} (x : α0) (y : α1) (z : α2) (h0 : A x y z) (h1 : B x y z) (h2 : C x y z) (h3 : D x y z) (h4 : E x y z) (h5 : F x y z) (h6 : H x y z) (h7 : I x y z) : ∃ x y z,A x y z∧B x y z∧C x y z∧D x y z∧E x y z∧F x y z∧H x y z∧I x y z := ⟨x, y, z, h0, h1, h2, h3, h4, h5, h6, h7⟩
theorem in43 {α0 α1 α2 α3 : Sort _} {A B C : α0→α1→α2→α3→Prop} (x : α0) (y : α1) (z : α2) (u : α3) (h0 : A x y z u) (h1 : B x y z u) (h2 : C x y z u) : ∃ x y z u,A x y z u∧B x y z u∧C x y z u := ⟨x, y, z, u, h0, h1, h2⟩
theorem in44 {α0 α1 α2 α3 : Sort _} {A B C D : α0→α1→α2→α3→Prop} (x : α0) (y : α1) (z : α2) (u : α3) (h0 : A x y z u) (h1 : B x y z u) (h2 : C x y z u) (h3 : D x y z u) : ∃ x y z u,A x y z u∧B x y z u∧C x y z u∧D x y z u := ⟨x, y, z, u, h0, h1, h2, h3⟩
theorem in53 {α0 α1 α2 α3 α4 : Sort _} {A B C : α0→α1→α2→α3→α4→Prop} (x : α0) (y : α1) (z : α2) (u : α3) (v : α4) (h0 : A x y z u v) (h1 : B x y z u v) (h2 : C x y z u v) : ∃ x y z u v,A x y z u v∧B x y z u v∧C x y z u v := ⟨x, y, z, u, v, h0, h1, h2⟩
theorem in73 {α0 α1 α2 α3 α4 α5 α6 : Sort _} {A B C : α0→α1→α2→α3→α4→α5→α6→Prop} (x : α0) (y : α1) (z : α2) (u : α3) (v : α4) (w : α5) (s : α6) (h0 : A x y z u v w s) (h1 : B x y z u v w s) (h2 : C x y z u v w s) : ∃ x y z u v w s,A x y z u v w s∧B x y z u v w s∧C x y z u v w s := ⟨x, y, z, u, v, w, s, h0, h1, h2⟩
end Mine

-- A
section
open PySem PyProof.Rows
namespace Mine
inductive Bi where
 | len | list | tuple | sorted | repr | range | min | isinstance | bool | enumerate
 deriving DecidableEq
noncomputable def Bi.val : Bi → Value
 | .len => .builtin "len" | .list => .type "list" | .tuple => .type "tuple" | .sorted => .builtin "sorted" | .repr => .builtin "repr"
 | .range => .type "range" | .min => .builtin "min" | .isinstance => .builtin "isinstance" | .bool => .type "bool" | .enumerate => .type "enumerate"
inductive D where
 | none | bool (b : Bool) | int (i : Int) | str (x : Str) | txt (x : Str)
 | tup (ds : List D) | fl (ds : List D)
 | ref (i : Nat) | fn (a : Addr) | cls (a : Addr) | bi (b : Bi) | rng (a b : Int) | items (i : Nat)
set_option genInjectivity true in
inductive AO where
 | list (ds : List D) | dict (es : List (Str × D)) | inst (C : Addr) (j : Nat)
noncomputable abbrev AH := List AO
noncomputable abbrev Loc := List (Str × Option D)
noncomputable abbrev Nms := List (Str × NameKind)
inductive Flw where
 | next | ret (d : D)
structure Fn where
 params : List Str
 dfl : List D
 names : Nms
 body : List Stmt
structure Cl where
 init : Addr
 meths : List (Str × Addr)
 attrs : List Str
structure GE where
 glob : Str → Option D
 fn : Addr → Option Fn
 cls : Addr → Option Cl
noncomputable def cellish : Option NameKind → Bool
 | some .cell | some .free => true
 | _ => false
noncomputable def isLocal : Option NameKind → Bool
 | some .local => true
 | _ => false
noncomputable def isLoc (k : Option NameKind) : Bool := isLocal k || cellish k
noncomputable def isOwn : Option NameKind → Bool
 | some .local | some .cell => true
 | _ => false
noncomputable def isGlob : Option NameKind → Bool
 | some .globalImplicit => true
 | _ => false
noncomputable def look (loc : Loc) (x : Str) : Option D := (loc.lookup x).join
noncomputable def put : Loc → Str → D → Loc
 | [], _, _ => []
 | (y, o) :: r, x, d => if y == x then (y, some d) :: r else (y, o) :: put r x d
noncomputable def putE : List (Str × D) → Str → D → List (Str × D)
 | [], k, v => [(k, v)]
 | (k', v') :: r, k, v => if k' == k then (k', v) :: r else (k', v') :: putE r k v
noncomputable def omap {α β : Type} (f : α → Option β) : List α → Option (List β)
 | [] => some []
 | a :: r => match f a with
  | some b => match omap f r with
   | some bs => some (b :: bs)
   | none => none
  | none => none
noncomputable def listAt (H : AH) (i : Nat) : Option (List D) := match H[i]? with
 | some (.list ds) => some ds
 | _ => none
noncomputable def dictAt (H : AH) (i : Nat) : Option (List (Str × D)) := match H[i]? with
 | some (.dict es) => some es
 | _ => none
noncomputable def leaf : D → Option PyData
 | .none => some .none
 | .bool b => some (.bool b)
 | .int i => some (.int i)
 | .str x => some (.str x)
 | _ => none
noncomputable def py (H : AH) : Nat → D → Option PyData
 | 0, d => leaf d
 | n + 1, d => match d with
  | .tup ds => (omap (py H n) ds).map .tuple
  | .fl ds => (omap (py H n) ds).map .list
  | .ref i => match listAt H i with
   | some ds => (omap (py H n) ds).map .list
   | none => none
  | _ => leaf d
noncomputable def isNone : D → Bool
 | .none => true
 | _ => false
noncomputable def isBool : D → Bool
 | .bool _ => true
 | _ => false
noncomputable def isIn (H : AH) (a : D) : D → Option Bool
 | .tup ds => match py H 3 a, omap (py H 3) ds with
  | some p, some qs => some (qs.any fun q => PyData.eqv q p)
  | _, _ => none
 | .ref i => match H[i]? with
  | some (.list ds) => match py H 3 a, omap (py H 3) ds with
   | some p, some qs => some (qs.any fun q => PyData.eqv q p)
   | _, _ => none
  | some (.dict es) => match a with
   | .str k => some ((es.lookup k).isSome)
   | _ => none
  | _ => none
 | _ => none
noncomputable def isEq (H : AH) : D → D → Option Bool
 | .txt a, .txt b => some (decide (a = b))
 | a, b => match py H 3 a, py H 3 b with
  | some p, some q => some (PyData.eqv p q)
  | _, _ => none
noncomputable def twoI : D → D → Option (Int × Int)
 | .int a, .int b => some (a, b)
 | _, _ => none
noncomputable def cmp (H : AH) : CmpOp → D → D → Option Bool
 | .Is, a, b => if isNone b then some (isNone a) else none
 | .IsNot, a, b => if isNone b then some (!isNone a) else none
 | .Lt, a, b => (twoI a b).map fun p => decide (p.1 < p.2)
 | .LtE, a, b => (twoI a b).map fun p => decide (p.1 ≤ p.2)
 | .Gt, a, b => (twoI a b).map fun p => decide (p.1 > p.2)
 | .GtE, a, b => (twoI a b).map fun p => decide (p.1 ≥ p.2)
 | .Eq, a, b => isEq H a b
 | .NotEq, a, b => (isEq H a b).map (!·)
 | .In, a, b => isIn H a b
 | .NotIn, a, b => (isIn H a b).map (!·)
noncomputable def maxLen : Nat := 4096
noncomputable def alloc (H : AH) (o : AO) : Option (D × AH) := some (.ref H.length, H ++ [o])
noncomputable def newL (H : AH) (ds : List D) : Option (D × AH) := if ds.length ≤ maxLen then alloc H (.list ds) else none
noncomputable def small (a : Int) : Bool := decide (-(2 ^ 60) < a) && decide (a < 2 ^ 60)
noncomputable def binop (H : AH) (op : Operator) (x y : D) : Option (D × AH) := match op with
 | .Add => match x with
  | .int a => match y with
   | .int b => some (.int (a + b), H)
   | _ => none
  | .ref i => match y with
   | .ref j => match listAt H i, listAt H j with
    | some xs, some ys => newL H (xs ++ ys)
    | _, _ => none
   | _ => none
  | _ => none
 | .Sub => match twoI x y with
  | some (a, b) => some (.int (a - b), H)
  | none => none
 | .Mult => match twoI x y with
  | some (a, b) => if small a || small b then some (.int (a * b), H) else none
  | none => none
 | .FloorDiv => match twoI x y with
  | some (a, b) => if decide (0 < b) && decide (b < 1073741824) then some (.int (a.fdiv b), H) else none
  | none => none
 | .Mod => match twoI x y with
  | some (a, b) => if decide (b ≠ 0) then some (.int (a.fmod b), H) else none
  | none => none
 | .Pow => match twoI x y with
  | some (a, b) => if small a && decide (0 ≤ b) && decide (b ≤ 1000) then some (.int (a ^ b.toNat), H) else none
  | none => none
 | _ => none
noncomputable def ltS (a b : Str) : Bool := Spec.ltCps a.cps.toList b.cps.toList
noncomputable def insS (a : Str) : List Str → List Str
 | [] => [a]
 | b :: r => if ltS b a then b :: insS a r else a :: b :: r
noncomputable def srt : List Str → List Str
 | [] => []
 | a :: r => insS a (srt r)
noncomputable def kasRun {α : Type} (c : Nat → Nat → Bool) : PySem.W.KasT α → α
 | .ret a => a
 | .ask i j k => kasRun c (k (c i j))
noncomputable def keyAt (es : List (Str × D)) (i : Nat) : Str := (es.getD i (Str.empty, .none)).1
noncomputable def pairOf (e : Str × D) : D := .tup [.str e.1, e.2]
noncomputable def srtE (es : List (Str × D)) : List D := if es.length < 2 then es.map pairOf else (kasRun (fun i j => ltS (keyAt es i) (keyAt es j)) (PySem.W.kas_sort es.length)).toList.map fun i => (es.map pairOf).getD i .none
noncomputable def strOf : D → Option Str
 | .str x => some x
 | _ => none
noncomputable def isIntD : D → Bool
 | .int _ => true
 | _ => false
noncomputable def src (H : AH) : D → Option (List D × Option Nat)
 | .tup ds => some (ds, none)
 | .fl ds => some (ds, none)
 | .rng a b => if decide (-4096 ≤ a) && decide (a ≤ 4096) && decide (-4096 ≤ b) && decide (b ≤ 4096) then some ((List.range (b - a).toNat).map fun k : Nat => .int (a + (k : Int)), none) else none
 | .ref i => (listAt H i).map fun ds => (ds, some i)
 | _ => none
open Classical in
noncomputable def still (o : Option Nat) (ds : List D) (H : AH) : Bool := match o with
 | none => true
 | some i => decide (listAt H i = some ds)
noncomputable def showOk (p : PyData) : Bool := p.showable && p.leavesShort 13 && decide (p.bulk ≤ 2 ^ 20) && !p.hasDict
noncomputable def isBoolT : D → Bool
 | .bi b => decide (b = .bool)
 | _ => false
noncomputable def bcall (H : AH) (b : Bi) (args : List D) : Option (D × AH) := match b with
 | .len => match args with
  | [d] => match d with
   | .tup ds => if ds.length ≤ maxLen then some (.int ds.length, H) else none
   | .ref i => match listAt H i with
    | some ds => if ds.length ≤ maxLen then some (.int ds.length, H) else none
    | none => none
   | _ => none
  | _ => none
 | .list => match args with
  | [d] => match d with
   | .tup ds => newL H ds
   | .ref i => match H[i]? with
    | some (.list ds) => newL H ds
    | some (.dict es) => newL H (es.map fun e => .str e.1)
    | _ => none
   | _ => none
  | _ => none
 | .tuple => match args with
  | [d] => match d with
   | .ref i => match listAt H i with
    | some ds => if ds.length ≤ maxLen then some (.tup ds, H) else none
    | none => none
   | _ => none
  | _ => none
 | .sorted => match args with
  | [d] => match d with
   | .ref i => match listAt H i with
    | some ds => match omap strOf ds with
     | some xs => if xs.length < 64 then alloc H (.list ((srt xs).map .str)) else none
     | none => none
    | none => none
   | .items i => match dictAt H i with
    | some es => if es.length < 64 && es.all (fun e => isIntD e.2) then alloc H (.list (srtE es)) else none
    | none => none
   | _ => none
  | _ => none
 | .repr => match args with
  | [d] => match py H 3 d with
   | some p => if showOk p then some (.txt p.shown, H) else none
   | none => none
  | _ => none
 | .range => match args with
  | [d] => match d with
   | .int b => if decide (0 ≤ b) && decide (b ≤ maxLen) then some (.rng 0 b, H) else none
   | _ => none
  | [d, e] => match twoI d e with
   | some (a, b) => if decide (-4096 ≤ a) && decide (a ≤ maxLen) && decide (-4096 ≤ b) && decide (b ≤ maxLen) then some (.rng a b, H) else none
   | none => none
  | _ => none
 | .min => match args with
  | [d, e] => match twoI d e with
   | some (a, b) => some (.int (min a b), H)
   | none => none
  | _ => none
 | .isinstance => match args with
  | [d, t] => if isBoolT t then match d with
    | .none | .int _ | .str _ => some (.bool false, H)
    | .bool _ => some (.bool true, H)
    | .tup _ => some (.bool false, H)
    | _ => none
   else none
  | _ => none
 | _ => none
noncomputable def mcall (H : AH) (i : Nat) (name : Str) (args : List D) : Option (D × AH) := match H[i]? with
 | some (.list ds) =>
  if name == "append" then match args with
   | [d] => if ds.length ≤ maxLen then some (.none, H.set i (.list (ds ++ [d]))) else none
   | _ => none
  else if name == "pop" then match args with
   | [] => match ds.getLast? with
    | some d => if ds.length ≤ maxLen then some (d, H.set i (.list ds.dropLast)) else none
    | none => none
   | _ => none
  else none
 | some (.dict es) =>
  if name == "get" then match args with
   | [.str k] => some ((es.lookup k).getD .none, H)
   | [.str k, d] => some ((es.lookup k).getD d, H)
   | _ => none
  else if name == "items" then match args with
   | [] => some (.items i, H)
   | _ => none
  else none
 | _ => none
noncomputable def descOk : AO → Str → Bool
 | .list _, x => x == "append" || x == "pop"
 | .dict _, x => x == "get" || x == "items"
 | _, _ => false
noncomputable def nth (ds : List D) (k : Int) : Option D := if 0 ≤ k then ds[k.toNat]? else if 0 ≤ k + ds.length then ds[(k + ds.length).toNat]? else none
noncomputable def setNth (ds : List D) (k : Int) (v : D) : Option (List D) :=
 let j := if 0 ≤ k then k else k + ds.length
 if decide (0 ≤ j) && decide (j < ds.length) then some (ds.set j.toNat v) else none
noncomputable def getIt (H : AH) (a k : D) : Option D := match a with
 | .tup ds => match k with
  | .int k => if ds.length ≤ maxLen then nth ds k else none
  | _ => none
 | .fl ds => match k with
  | .int k => if ds.length ≤ maxLen then nth ds k else none
  | _ => none
 | .ref i => match k with
  | .int k => match listAt H i with
   | some ds => if ds.length ≤ maxLen then nth ds k else none
   | none => none
  | .str k => match dictAt H i with
   | some es => es.lookup k
   | none => none
  | _ => none
 | _ => none
noncomputable def setIt (H : AH) (a k v : D) : Option AH := match a with
 | .ref i => match k with
  | .int k => match listAt H i with
   | some ds => if ds.length ≤ maxLen then (setNth ds k v).map fun ds' => H.set i (.list ds') else none
   | none => none
  | .str k => match dictAt H i with
   | some es => if es.length ≤ maxLen then some (H.set i (.dict (putE es k v))) else none
   | none => none
  | _ => none
 | _ => none
noncomputable def part : D → Option (Option Int)
 | .none => some none
 | .int i => some (some i)
 | _ => none
noncomputable def cut (ds : List D) : Option Int → Option Int → Option Int → Option (List D)
 | lo, hi, none => 
  let a := lo.getD 0
  let b := hi.getD ds.length
  if decide (0 ≤ a) && decide (0 ≤ b) then some ((ds.take b.toNat).drop a.toNat) else none
 | none, none, some s => if s = -1 then some ds.reverse else none
 | _, _, _ => none
noncomputable def sliceIt (H : AH) (d : D) (lo hi st : D) : Option (D × AH) := match part lo, part hi, part st with
 | some a, some b, some c => match d with
  | .fl ds => if ds.length ≤ maxLen then match cut ds a b c with
    | some rs => newL H rs
    | none => none
   else none
  | .ref i => match listAt H i with
   | some ds => if ds.length ≤ maxLen then match cut ds a b c with
     | some rs => newL H rs
     | none => none
    else none
   | none => none
  | _ => none
 | _, _, _ => none
noncomputable def unop : UnaryOp → D → Option D
 | .Not, .bool b => some (.bool (!b))
 | .USub, .int i => some (.int (-i))
 | _, _ => none
noncomputable def truth : D → Option Bool
 | .bool b => some b
 | _ => none
noncomputable def attrOf (ge : GE) (H : AH) (d : D) (name : Str) : Option D := match d with
 | .ref i => match H[i]? with
  | some (.inst C j) => match ge.cls C, dictAt H j with
   | some c, some es => if c.attrs.contains name then es.lookup name else none
   | _, _ => none
  | _ => none
 | _ => none
noncomputable def setAttr (ge : GE) (H : AH) (d : D) (name : Str) (v : D) : Option AH := match d with
 | .ref i => match H[i]? with
  | some (.inst C j) => match ge.cls C, dictAt H j with
   | some c, some es => if c.attrs.contains name && decide (es.length ≤ 900) then some (H.set j (.dict (putE es name v))) else none
   | _, _ => none
  | _ => none
 | _ => none
noncomputable def methOf (ge : GE) (H : AH) (i : Nat) (name : Str) : Option Addr := match H[i]? with
 | some (.inst C j) => match ge.cls C, dictAt H j with
  | some c, some es => if (es.lookup name).isNone then c.meths.lookup name else none
  | _, _ => none
 | _ => none
noncomputable def evs (f : Expr → AH → Option (D × AH)) : List Expr → AH → Option (List D × AH)
 | [], H => some ([], H)
 | e :: es, H => match f e H with
  | some (d, H1) => match evs f es H1 with
   | some (ds, H2) => some (d :: ds, H2)
   | none => none
  | none => none
noncomputable def evP (f : Expr → AH → Option (D × AH)) : List (Option Expr × Expr) → AH → Option (List (Str × D) × AH)
 | [], H => some ([], H)
 | (k, e) :: es, H => match k with
  | none => none
  | some k => match f k H with
   | some (.str x, H0) => match f e H0 with
    | some (d, H1) => match evP f es H1 with
     | some (ds, H2) => some ((x, d) :: ds, H2)
     | none => none
    | none => none
   | _ => none
noncomputable def optE (f : Expr → AH → Option (D × AH)) : Option Expr → AH → Option (D × AH)
 | none, H => some (.none, H)
 | some e, H => f e H
noncomputable def stsL (f : Stmt → Loc → AH → Option (Flw × Loc × AH)) : List Stmt → Loc → AH → Option (Flw × Loc × AH)
 | [], loc, H => some (.next, loc, H)
 | s :: r, loc, H => match f s loc H with
  | some (.next, loc1, H1) => stsL f r loc1 H1
  | o => o
noncomputable def allT (f : Expr → AH → Option (Bool × AH)) (op : BoolOp) : List Expr → AH → Option (Bool × AH)
 | [], H => some (match op with | .And => true | .Or => false, H)
 | e :: r, H => match f e H with
  | some (b, H1) => match op, b with
   | .And, false => some (false, H1)
   | .Or, true => some (true, H1)
   | _, _ => allT f op r H1
  | none => none
noncomputable def boolV (f : Expr → AH → Option (D × AH)) (op : BoolOp) : List Expr → AH → Option (D × AH)
 | [], _ => none
 | [e], H => f e H
 | e :: r, H => match f e H with
  | some (d, H1) => match truth d with
   | some b => match op, b with
    | .And, false => some (d, H1)
    | .Or, true => some (d, H1)
    | _, _ => boolV f op r H1
   | none => none
  | none => none
noncomputable def nameOf : Expr → Option Str
 | .Name x _ => some x
 | _ => none
noncomputable def fill (nm : Nms) : List Str → List D → Loc → Option Loc
 | [], [], loc => some loc
 | x :: xs, d :: ds, loc => if isOwn (nm.lookup x) then fill nm xs ds (put loc x d) else none
 | _, _, _ => none
noncomputable def bindT (nm : Nms) (t : Expr) (d : D) (loc : Loc) : Option Loc := match t with
 | .Name x _ => if isOwn (nm.lookup x) then some (put loc x d) else none
 | .Tuple ts _ _ => match omap nameOf ts, d with
  | some xs, .tup ds => if ds.length ≤ maxLen then fill nm xs ds loc else none
  | _, _ => none
 | _ => none
noncomputable def loop (chk : AH → Bool) (step : D → Loc → AH → Option (Flw × Loc × AH)) : List D → Loc → AH → Option (Flw × Loc × AH)
 | [], loc, H => some (.next, loc, H)
 | d :: ds, loc, H => match step d loc H with
  | some (.next, loc1, H1) => if chk H1 then loop chk step ds loc1 H1 else none
  | o => o
noncomputable def cloop (chk : AH → Bool) (step : D → Loc → AH → Option (Option D × Loc × AH)) : List D → Loc → AH → Option (List D × AH)
 | [], _, H => some ([], H)
 | d :: ds, loc, H => match step d loc H with
  | some (r, loc1, H1) => if chk H1 then match cloop chk step ds loc1 H1 with
    | some (rs, H2) => some (match r with | some x => x :: rs | none => rs, H2)
    | none => none
   else none
  | none => none
noncomputable def wloop (test : Loc → AH → Option (Bool × AH)) (body : Loc → AH → Option (Flw × Loc × AH)) : Nat → Loc → AH → Option (Flw × Loc × AH)
 | 0, _, _ => none
 | m + 1, loc, H => match test loc H with
  | some (true, H1) => match body loc H1 with
   | some (.next, loc1, H2) => wloop test body m loc1 H2
   | o => o
  | some (false, H1) => some (.next, loc, H1)
  | none => none
noncomputable def enumOf (ds : List D) : List D := (ds.zipIdx).map fun p => .tup [.int (p.2 : Int), p.1]
noncomputable def nameVal (ge : GE) (nm : Nms) (loc : Loc) (x : Str) : Option D :=
 if x == "__debug__" || x == "__classdict__" then none else if isLoc (nm.lookup x) then look loc x else if isGlob (nm.lookup x) then ge.glob x else none
noncomputable def notStar (e : Expr) : Bool := !Nat.beq e.ctorIdx 22
noncomputable def isSlice (e : Expr) : Bool := Nat.beq e.ctorIdx 26
noncomputable def isSuper (e : Expr) : Bool := match e with
 | .Call (.Name ..) [] [] _ => true
 | _ => false
noncomputable def callable (ge : GE) : D → Bool
 | .fn a => (ge.fn a).isSome
 | .cls C => (ge.cls C).isSome
 | .bi _ => true
 | _ => false
noncomputable def scopeOk (nm : Nms) (sc : Scope) : Bool := decide (sc.kind = .function) && decide ((sc.names.map (·.1)).Nodup) && sc.names.all fun x => match x.2 with
 | .free => cellish (nm.lookup x.1)
 | _ => true
noncomputable def notSet (e : Expr) : Bool := !Nat.beq e.ctorIdx 7
structure Ev where
 ex : Nms → Loc → Expr → AH → Option (D × AH)
 tr : Nms → Loc → Expr → AH → Option (Bool × AH)
 st : Nms → Stmt → Loc → AH → Option (Flw × Loc × AH)
 cl : D → List D → AH → Option (D × AH)
noncomputable def lstep (p : Ev) (nm : Nms) (t : Expr) (b : List Stmt) (d : D) (loc : Loc) (H : AH) : Option (Flw × Loc × AH) := match bindT nm t d loc with
 | some loc1 => stsL (p.st nm) b loc1 H
 | none => none
noncomputable def cstep (p : Ev) (nm : Nms) (elt t : Expr) (ifs : List Expr) (d : D) (loc : Loc) (H : AH) : Option (Option D × Loc × AH) := match bindT nm t d loc with
 | some loc1 => match ifs with
  | [] => (p.ex nm loc1 elt H).map fun r => (some r.1, loc1, r.2)
  | [c] => match p.tr nm loc1 c H with
   | some (true, H1) => (p.ex nm loc1 elt H1).map fun r => (some r.1, loc1, r.2)
   | some (false, H1) => some (none, loc1, H1)
   | none => none
  | _ => none
 | none => none
noncomputable def callF (_ge : GE) (p : Ev) (f : Fn) (args : List D) (H : AH) : Option (D × AH) :=
 if decide (args.length ≤ f.params.length) && decide (f.params.length ≤ args.length + f.dfl.length) then
  let full := args ++ f.dfl.drop (f.dfl.length - (f.params.length - args.length))
  let loc : Loc := (f.names.filter fun x => isOwn (some x.2)).map fun x => (x.1, (f.params.zip full).lookup x.1)
  match stsL (p.st f.names) f.body loc H with
  | some (.ret d, _, H1) => some (d, H1)
  | some (.next, _, H1) => some (.none, H1)
  | none => none
 else none
noncomputable def callD (ge : GE) (p : Ev) (d : D) (args : List D) (H : AH) : Option (D × AH) := match d with
 | .fn a => match ge.fn a with
  | some f => callF ge p f args H
  | none => none
 | .cls C => match ge.cls C with
  | some c => match p.cl (.fn c.init) (.ref (H.length + 1) :: args) (H ++ [.dict [], .inst C H.length]) with
   | some (.none, H1) => some (.ref (H.length + 1), H1)
   | _ => none
  | none => none
 | .bi b => bcall H b args
 | _ => none
noncomputable def exD (ge : GE) (p : Ev) (nm : Nms) (loc : Loc) (e : Expr) (H : AH) : Option (D × AH) := match e with
 | .Constant c _ _ => match c with
  | .none => some (.none, H)
  | .bool b => some (.bool b, H)
  | .int i => some (.int i, H)
  | .str x => if PyData.strOk x then some (.str x, H) else none
  | _ => none
 | .Name x _ => (nameVal ge nm loc x).map fun d => (d, H)
 | .Tuple es _ _ => if es.all notStar && decide (es.length ≤ maxLen) then match evs (p.ex nm loc) es H with
   | some (ds, H1) => some (.tup ds, H1)
   | none => none
  else none
 | .List es _ => if es.all notStar && decide (es.length ≤ maxLen) then match evs (p.ex nm loc) es H with
   | some (ds, H1) => newL H1 ds
   | none => none
  else none
 | .Dict ks vs _ => if decide (ks.length = vs.length) && decide (ks.length ≤ 15) then match evP (p.ex nm loc) (ks.zip vs) H with
   | some (es, H1) => alloc H1 (.dict (es.foldl (fun r e => putE r e.1 e.2) []))
   | none => none
  else none
 | .BinOp l op r _ => match p.ex nm loc l H with
  | some (a, H1) => match p.ex nm loc r H1 with
   | some (b, H2) => binop H2 op a b
   | none => none
  | none => none
 | .UnaryOp op x _ => match p.ex nm loc x H with
  | some (a, H1) => (unop op a).map fun d => (d, H1)
  | none => none
 | .BoolOp op es _ => boolV (p.ex nm loc) op es H
 | .Compare l [op] [r] _ => if behindInMarks op r then none else match p.ex nm loc l H with
  | some (a, H1) => match p.ex nm loc r H1 with
   | some (b, H2) => (cmp H2 op a b).map fun t => (.bool t, H2)
   | none => none
  | none => none
 | .IfExp t b o _ => match p.tr nm loc t H with
  | some (true, H1) => p.ex nm loc b H1
  | some (false, H1) => p.ex nm loc o H1
  | none => none
 | .Call (.Attribute o name apos) args [] pos => if isSuper o || !args.all notStar || decide (args.length > 20) || !(apos.endLine == pos.line) then none else match p.ex nm loc o H with
  | some (.ref i, H1) => match H1[i]? with
   | some (.inst _ _) => match methOf ge H1 i name with
    | some f => match evs (p.ex nm loc) args H1 with
     | some (ds, H2) => p.cl (.fn f) (.ref i :: ds) H2
     | none => none
    | none => none
   | some o => if descOk o name then match evs (p.ex nm loc) args H1 with
     | some (ds, H2) => mcall H2 i name ds
     | none => none
    else none
   | none => none
  | _ => none
 | .Call (.Name x q) args [] _ => if !args.all notStar then none else match p.ex nm loc (.Name x q) H with
  | some (d, H1) => if callable ge d then match evs (p.ex nm loc) args H1 with
    | some (ds, H2) => p.cl d ds H2
    | none => none
   else none
  | none => none
 | .Attribute v a _ => if isSuper v then none else match p.ex nm loc v H with
  | some (d, H1) => (attrOf ge H1 d a).map fun r => (r, H1)
  | none => none
 | .Subscript v (.Slice lo hi st _) _ => match p.ex nm loc v H with
  | some (d, H1) => match optE (p.ex nm loc) lo H1 with
   | some (a, H2) => match optE (p.ex nm loc) hi H2 with
    | some (b, H3) => match optE (p.ex nm loc) st H3 with
     | some (c, H4) => sliceIt H4 d a b c
     | none => none
    | none => none
   | none => none
  | none => none
 | .Subscript v i _ => match p.ex nm loc v H with
  | some (d, H1) => match p.ex nm loc i H1 with
   | some (k, H2) => (getIt H2 d k).map fun r => (r, H2)
   | none => none
  | none => none
 | .ListComp elt [⟨t, iter, ifs, z⟩] scope _ => if !decide (z = 0) then none else if !scopeOk nm scope || !notSet iter then none else match p.ex nm loc iter H with
  | some (d, H1) => match src H1 d with
   | some (ds, o) => if decide (ds.length ≤ maxLen) then
     let cl : Loc := (scope.names.filter fun x => isOwn (some x.2)).map fun x => (x.1, none)
     match cloop (still o ds) (cstep p scope.names elt t ifs) ds (cl ++ loc) H1 with
     | some (rs, H2) => newL H2 rs
     | none => none
    else none
   | none => none
  | none => none
 | _ => none
noncomputable def trD (ge : GE) (p : Ev) (nm : Nms) (loc : Loc) (e : Expr) (H : AH) : Option (Bool × AH) := match e with
 | .UnaryOp .Not x _ => (p.tr nm loc x H).map fun r => (!r.1, r.2)
 | .BoolOp op es _ => allT (p.tr nm loc) op es H
 | .Compare l [op] [r] _ => if behindInMarks op r then none else match p.ex nm loc l H with
  | some (a, H1) => match p.ex nm loc r H1 with
   | some (b, H2) => (cmp H2 op a b).map fun t => (t, H2)
   | none => none
  | none => none
 | .Compare .. => none
 | .IfExp .. => none
 | e => match p.ex nm loc e H with
  | some (d, H1) => (truth d).map fun b => (b, H1)
  | none => none
noncomputable def isEnumD : Option D → Bool
 | some (.bi .enumerate) => true
 | _ => false
noncomputable def enumArg (ge : GE) (nm : Nms) (loc : Loc) : Expr → Option Expr
 | .Call (.Name f _) [x] [] _ => if isEnumD (nameVal ge nm loc f) then some x else none
 | _ => none
noncomputable def isTup (e : Expr) : Bool := Nat.beq e.ctorIdx 25
noncomputable def isComp (e : Expr) : Bool := Nat.beq e.ctorIdx 8
noncomputable def elts : Expr → List Expr
 | .Tuple es _ _ => es
 | _ => []
noncomputable def swapOk (t v : Expr) : Bool := !(Nat.beq v.ctorIdx 9 || Nat.beq v.ctorIdx 10) && (!isTup t || !isTup v || !((elts v).all (constantsAlone 8)) && (match omap nameOf (elts t) with | some xs => decide xs.Nodup | none => false))
noncomputable def stD (ge : GE) (p : Ev) (nm : Nms) (s : Stmt) (loc : Loc) (H : AH) : Option (Flw × Loc × AH) := match s with
 | .Expr e _ => match e with
  | .Call .. => (p.ex nm loc e H).map fun r => (.next, loc, r.2)
  | _ => none
 | .Return none _ => some (.ret .none, loc, H)
 | .Return (some e) _ => (p.ex nm loc e H).map fun r => (.ret r.1, loc, r.2)
 | .If t b o _ => match p.tr nm loc t H with
  | some (true, H1) => stsL (p.st nm) b loc H1
  | some (false, H1) => stsL (p.st nm) o loc H1
  | none => none
 | .Assign [t] v _ => if !swapOk t v then none else match (if isComp v then exD ge p nm loc v H else p.ex nm loc v H) with
  | some (d, H1) => match t with
   | .Name x _ => if isOwn (nm.lookup x) then some (.next, put loc x d, H1) else none
   | .Tuple .. => (bindT nm t d loc).map fun loc1 => (.next, loc1, H1)
   | .Attribute o a _ => if !PyData.strOk a then none else match p.ex nm loc o H1 with
    | some (b, H2) => (setAttr ge H2 b a d).map fun H3 => (.next, loc, H3)
    | none => none
   | .Subscript o i _ => if isSlice i then none else match p.ex nm loc o H1 with
    | some (b, H2) => match p.ex nm loc i H2 with
     | some (k, H3) => (setIt H3 b k d).map fun H4 => (.next, loc, H4)
     | none => none
    | none => none
   | _ => none
  | none => none
 | .While t b [] _ => wloop (fun loc H => p.tr nm loc t H) (fun loc H => stsL (p.st nm) b loc H) 100 loc H
 | .For t it b [] _ => match enumArg ge nm loc it with
  | some x => if !isTup t || !notStar x then none else match p.ex nm loc x H with
   | some (d, H1) => match d with
    | .ref i => match listAt H1 i with
     | some ds => if decide (ds.length ≤ maxLen) then
       loop (still (some i) ds) (lstep p nm t b) (enumOf ds) loc H1
      else none
     | none => none
    | _ => none
   | none => none
  | none => if !notSet it then none else match p.ex nm loc it H with
   | some (d, H1) => match src H1 d with
    | some (ds, o) => if decide (ds.length ≤ maxLen) then
      loop (still o ds) (lstep p nm t b) ds loc H1
     else none
    | none => none
   | none => none
 | _ => none
noncomputable def up (ge : GE) (p : Ev) : Ev := ⟨exD ge p, trD ge p, stD ge p, callD ge p⟩
noncomputable def ev (ge : GE) : Nat → Ev
 | 0 => ⟨fun _ _ _ _ => none, fun _ _ _ _ => none, fun _ _ _ _ => none, fun _ _ _ => none⟩
 | n + 1 => up ge (ev ge n)
section
variable {β : Type} {r : β} {P : Prop}
theorem obL {o : Option (List D)} {f : List D → Option β} (k : ∀ a, o = some a → f a = some r → P) (e : (match (generalizing := false) o with | some a => f a | none => none) = some r) : P := by
 cases o with
 | none => cases e
 | some a => exact k a rfl e
theorem obE {o : Option (List (Str × D))} {f : List (Str × D) → Option β} (k : ∀ a, o = some a → f a = some r → P) (e : (match (generalizing := false) o with | some a => f a | none => none) = some r) : P := by
 cases o with
 | none => cases e
 | some a => exact k a rfl e
theorem obD {o : Option (D)} {f : D → Option β} (k : ∀ a, o = some a → f a = some r → P) (e : (match (generalizing := false) o with | some a => f a | none => none) = some r) : P := by
 cases o with
 | none => cases e
 | some a => exact k a rfl e
theorem obS {o : Option (List Str)} {f : List Str → Option β} (k : ∀ a, o = some a → f a = some r → P) (e : (match (generalizing := false) o with | some a => f a | none => none) = some r) : P := by
 cases o with
 | none => cases e
 | some a => exact k a rfl e
theorem obF {o : Option (Fn)} {f : Fn → Option β} (k : ∀ a, o = some a → f a = some r → P) (e : (match (generalizing := false) o with | some a => f a | none => none) = some r) : P := by
 cases o with
 | none => cases e
 | some a => exact k a rfl e
theorem obC {o : Option (Cl)} {f : Cl → Option β} (k : ∀ a, o = some a → f a = some r → P) (e : (match (generalizing := false) o with | some a => f a | none => none) = some r) : P := by
 cases o with
 | none => cases e
 | some a => exact k a rfl e
theorem obA {o : Option (Addr)} {f : Addr → Option β} (k : ∀ a, o = some a → f a = some r → P) (e : (match (generalizing := false) o with | some a => f a | none => none) = some r) : P := by
 cases o with
 | none => cases e
 | some a => exact k a rfl e
theorem obP {o : Option (PyData)} {f : PyData → Option β} (k : ∀ a, o = some a → f a = some r → P) (e : (match (generalizing := false) o with | some a => f a | none => none) = some r) : P := by
 cases o with
 | none => cases e
 | some a => exact k a rfl e
theorem obZ {o : Option (Loc)} {f : Loc → Option β} (k : ∀ a, o = some a → f a = some r → P) (e : (match (generalizing := false) o with | some a => f a | none => none) = some r) : P := by
 cases o with
 | none => cases e
 | some a => exact k a rfl e
theorem ocD {o : Option (D × AH)} {f : D → AH → Option β} (k : ∀ a b, o = some (a, b) → f a b = some r → P) (e : (match (generalizing := false) o with | some (a, b) => f a b | none => none) = some r) : P := by
 cases o with
 | none => cases e
 | some a => exact k a.1 a.2 rfl e
theorem ocL {o : Option (List D × AH)} {f : List D → AH → Option β} (k : ∀ a b, o = some (a, b) → f a b = some r → P) (e : (match (generalizing := false) o with | some (a, b) => f a b | none => none) = some r) : P := by
 cases o with
 | none => cases e
 | some a => exact k a.1 a.2 rfl e
theorem ocB {o : Option (Bool × AH)} {f : Bool → AH → Option β} (k : ∀ a b, o = some (a, b) → f a b = some r → P) (e : (match (generalizing := false) o with | some (a, b) => f a b | none => none) = some r) : P := by
 cases o with
 | none => cases e
 | some a => exact k a.1 a.2 rfl e
theorem ocE {o : Option (List (Str × D) × AH)} {f : List (Str × D) → AH → Option β} (k : ∀ a b, o = some (a, b) → f a b = some r → P) (e : (match (generalizing := false) o with | some (a, b) => f a b | none => none) = some r) : P := by
 cases o with
 | none => cases e
 | some a => exact k a.1 a.2 rfl e
theorem ocO {o : Option (List D × Option Nat)} {f : List D → Option Nat → Option β} (k : ∀ a b, o = some (a, b) → f a b = some r → P) (e : (match (generalizing := false) o with | some (a, b) => f a b | none => none) = some r) : P := by
 cases o with
 | none => cases e
 | some a => exact k a.1 a.2 rfl e
theorem ocI {o : Option (Int × Int)} {f : Int → Int → Option β} (k : ∀ a b, o = some (a, b) → f a b = some r → P) (e : (match (generalizing := false) o with | some (a, b) => f a b | none => none) = some r) : P := by
 cases o with
 | none => cases e
 | some a => exact k a.1 a.2 rfl e
theorem odP {o : Option (PyData)} {q : Option (PyData)} {f : PyData → PyData → Option β} (k : ∀ a b, o = some a → q = some b → f a b = some r → P) (e : (match (generalizing := false) o, q with | some a, some b => f a b | _, _ => none) = some r) : P := by
 cases o with
 | none => cases e
 | some a => cases q with
  | none => cases e
  | some b => exact k a b rfl rfl e
theorem odQ {o : Option (PyData)} {q : Option (List PyData)} {f : PyData → List PyData → Option β} (k : ∀ a b, o = some a → q = some b → f a b = some r → P) (e : (match (generalizing := false) o, q with | some a, some b => f a b | _, _ => none) = some r) : P := by
 cases o with
 | none => cases e
 | some a => cases q with
  | none => cases e
  | some b => exact k a b rfl rfl e
theorem odL {o : Option (List D)} {q : Option (List D)} {f : List D → List D → Option β} (k : ∀ a b, o = some a → q = some b → f a b = some r → P) (e : (match (generalizing := false) o, q with | some a, some b => f a b | _, _ => none) = some r) : P := by
 cases o with
 | none => cases e
 | some a => cases q with
  | none => cases e
  | some b => exact k a b rfl rfl e
theorem odC {o : Option (Cl)} {q : Option (List (Str × D))} {f : Cl → List (Str × D) → Option β} (k : ∀ a b, o = some a → q = some b → f a b = some r → P) (e : (match (generalizing := false) o, q with | some a, some b => f a b | _, _ => none) = some r) : P := by
 cases o with
 | none => cases e
 | some a => cases q with
  | none => cases e
  | some b => exact k a b rfl rfl e
theorem ooL {o : Option AO} {f : List D → Option β} (k : ∀ a, o = some (.list a) → f a = some r → P) (e : (match (generalizing := false) o with | some (.list a) => f a | _ => none) = some r) : P := by
 cases o with
 | none => cases e
 | some a => cases a with
  | list a => exact k a rfl e
  | _ => cases e
theorem ooD {o : Option AO} {f : List (Str × D) → Option β} (k : ∀ a, o = some (.dict a) → f a = some r → P) (e : (match (generalizing := false) o with | some (.dict a) => f a | _ => none) = some r) : P := by
 cases o with
 | none => cases e
 | some a => cases a with
  | dict a => exact k a rfl e
  | _ => cases e
theorem ooI {o : Option AO} {f : Addr → Nat → Option β} (k : ∀ a b, o = some (.inst a b) → f a b = some r → P) (e : (match (generalizing := false) o with | some (.inst a b) => f a b | _ => none) = some r) : P := by
 cases o with
 | none => cases e
 | some a => cases a with
  | inst a b => exact k a b rfl e
  | _ => cases e
theorem ol1 {l : List D} {f : D → Option β} (k : ∀ a, l = [a] → f a = some r → P) (e : (match (generalizing := false) l with | [a] => f a | _ => none) = some r) : P := by
 cases l with
 | nil => cases e
 | cons a l => cases l with
  | nil => exact k a rfl e
  | cons _ _ => cases e
theorem ol0 {l : List D} {x : Option β} (k : l = [] → x = some r → P) (e : (match (generalizing := false) l with | [] => x | _ => none) = some r) : P := by
 cases l with
 | nil => exact k rfl e
 | cons _ _ => cases e
theorem orf {d : D} {f : Nat → Option β} (k : ∀ a, d = .ref a → f a = some r → P) (e : (match (generalizing := false) d with | .ref i => f i | _ => none) = some r) : P := by
 cases d with
 | ref i => exact k i rfl e
 | _ => cases e
theorem obB {o : Option (Bool × AH)} {f g : AH → Option β} (k : ∀ a, o = some (true, a) → f a = some r → P) (k' : ∀ a, o = some (false, a) → g a = some r → P) (e : (match (generalizing := false) o with | some (true, a) => f a | some (false, a) => g a | none => none) = some r) : P := by
 cases o with
 | none => cases e
 | some q =>
  obtain ⟨b, a⟩ := q
  cases b with
  | true => exact k a rfl e
  | false => exact k' a rfl e
end
end Mine
end

-- C
section
open PySem PySem.Calls PyProof.Rows PySem.W
namespace Mine
noncomputable def immO (o : Obj) : Bool := match o.data with
 | .seq _ _ => o.cls == .type "tuple"
 | .fields _ => o.cls == .type "range" || o.cls == .type "dict_items"
 | _ => false
mutual
inductive V (B : Heap) (ρ : List Addr) (h : Heap) : Value → D → Prop
 | none : V B ρ h .none .none
 | bool (b : Bool) : V B ρ h (.bool b) (.bool b)
 | int (i : Int) (t : Tok) : V B ρ h (.int i t) (.int i)
 | str (x : Str) (t : Tok) (hx : PyData.strOk x = true) : V B ρ h (.str x t) (.str x)
 | txt (x : Str) (t : Tok) : V B ρ h (.str x t) (.txt x)
 | tup {a : Addr} {vs : Array Value} {n : Nat} {ds : List D} (ho : h.get? a = some { cls := .type "tuple", data := .seq vs n }) (hv : VL B ρ h vs.toList ds) : V B ρ h (.ref a) (.tup ds)
 | fl {a : Addr} {vs : Array Value} {n : Nat} {ds : List D} (ho : B.get? a = some { cls := .type "list", data := .seq vs n }) (hv : VL B ρ h vs.toList ds) : V B ρ h (.ref a) (.fl ds)
 | ref {i : Nat} {a : Addr} (hi : ρ[i]? = some a) : V B ρ h (.ref a) (.ref i)
 | fn (a : Addr) : V B ρ h (.ref a) (.fn a)
 | cls (a : Addr) : V B ρ h (.ref a) (.cls a)
 | bi (b : Bi) : V B ρ h b.val (.bi b)
 | rng {a : Addr} {lo hi : Int} {t u v : Tok} (ho : IsRange h a lo hi 1 t u v) : V B ρ h (.ref a) (.rng lo hi)
 | items {a d : Addr} {i : Nat} (ho : h.get? a = some { cls := .type "dict_items", data := .fields #[.ref d] }) (hi : ρ[i]? = some d) : V B ρ h (.ref a) (.items i)
inductive VL (B : Heap) (ρ : List Addr) (h : Heap) : List Value → List D → Prop
 | nil : VL B ρ h [] []
 | cons {v : Value} {d : D} {vs : List Value} {ds : List D} (hv : V B ρ h v d) (hr : VL B ρ h vs ds) : VL B ρ h (v :: vs) (d :: ds)
end
noncomputable def VK (B : Heap) (ρ : List Addr) (h : Heap) (v : Value) (G : Prop) : D → Prop
 | .none => v = .none → G
 | .bool b => v = .bool b → G
 | .int i => ∀ t, v = .int i t → G
 | .str x => ∀ t, PyData.strOk x = true → v = .str x t → G
 | .txt x => ∀ t, v = .str x t → G
 | .tup ds => ∀ (a : Addr) (vs : Array Value) (n : Nat), h.get? a = some { cls := .type "tuple", data := .seq vs n } → VL B ρ h vs.toList ds → v = .ref a → G
 | .fl ds => ∀ (a : Addr) (vs : Array Value) (n : Nat), B.get? a = some { cls := .type "list", data := .seq vs n } → VL B ρ h vs.toList ds → v = .ref a → G
 | .ref i => ∀ a, ρ[i]? = some a → v = .ref a → G
 | .fn a => v = .ref a → G
 | .cls a => v = .ref a → G
 | .bi b => v = b.val → G
 | .rng lo hi => ∀ (a : Addr) (t u z : Tok), IsRange h a lo hi 1 t u z → v = .ref a → G
 | .items i => ∀ (a d : Addr), h.get? a = some { cls := .type "dict_items", data := .fields #[.ref d] } → ρ[i]? = some d → v = .ref a → G
theorem V.elim {B : Heap} {ρ : List Addr} {h : Heap} {G : Prop} {v : Value} {d : D} (x : V B ρ h v d) (k : VK B ρ h v G d) : G := by
 cases x with
 | int i t => exact k t rfl
 | str x t hx => exact k t hx rfl
 | txt x t => exact k t rfl
 | tup ho hv => exact k _ _ _ ho hv rfl
 | fl ho hv => exact k _ _ _ ho hv rfl
 | ref hi => exact k _ hi rfl
 | rng ho => exact k _ _ _ _ ho rfl
 | items ho hi => exact k _ _ ho hi rfl
 | _ => exact k rfl
noncomputable def VLK (B : Heap) (ρ : List Addr) (h : Heap) (us : List Value) (G : Prop) : List D → Prop
 | [] => us = [] → G
 | d :: ds => ∀ v vs, V B ρ h v d → VL B ρ h vs ds → us = v :: vs → G
theorem VL.elim {B : Heap} {ρ : List Addr} {h : Heap} {G : Prop} {vs : List Value} {ds : List D} (x : VL B ρ h vs ds) (k : VLK B ρ h vs G ds) : G := by
 cases x with
 | nil => exact k rfl
 | cons a r => exact k _ _ a r rfl
noncomputable def VLD (B : Heap) (ρ : List Addr) (h : Heap) (es : List D) (G : Prop) : List Value → Prop
 | [] => es = [] → G
 | v :: vs => ∀ d ds, V B ρ h v d → VL B ρ h vs ds → es = d :: ds → G
theorem VL.elid {B : Heap} {ρ : List Addr} {h : Heap} {G : Prop} {vs : List Value} {ds : List D} (x : VL B ρ h vs ds) (k : VLD B ρ h ds G vs) : G := by
 cases x with
 | nil => exact k rfl
 | cons a r => exact k _ _ a r rfl
noncomputable def Imm (h h' : Heap) : Prop := ∀ b o, h.get? b = some o → immO o = true → h'.get? b = some o
theorem Imm.refl (h : Heap) : Imm h h := fun O O e O => e
theorem Imm.trans {h₁ h₂ h₃ : Heap} (x : Imm h₁ h₂) (y : Imm h₂ h₃) : Imm h₁ h₃ := fun b o e i => y b o (x b o e i) i
section
variable {B : Heap} {ρ new : List Addr} {h h' : Heap}
theorem at_old {i : Nat} {a : Addr} (hi : ρ[i]? = some a) : (ρ ++ new)[i]? = some a := by rw [List.getElem?_append_left (List.getElem?_eq_some_iff.mp hi).1]; exact hi
theorem V.mono (im : Imm h h') {v : Value} {d : D} (x : V B ρ h v d) : V B (ρ ++ new) h' v d :=
 V.rec (motive_1 := fun v d O => V B (ρ ++ new) h' v d) (motive_2 := fun vs ds O => VL B (ρ ++ new) h' vs ds) .none .bool .int .str .txt (fun ho O hv => .tup (im _ _ ho rfl) hv) (fun ho O hv => .fl ho hv) (fun hi => .ref (at_old hi)) .fn .cls .bi
  (fun ho => .rng (im _ _ ho rfl)) (fun ho hi => .items (im _ _ ho rfl) (at_old hi)) .nil (fun O O a b => .cons a b) x
theorem VL.mono (im : Imm h h') {vs : List Value} {ds : List D} (x : VL B ρ h vs ds) : VL B (ρ ++ new) h' vs ds := by
 induction vs generalizing ds with
 | nil => refine VL.elid x fun zq => ?_; clear x; subst zq; exact .nil
 | cons v vs ih => cases x with | cons a r => exact .cons (a.mono im) (ih r)
end
theorem V.mono0 {B : Heap} {ρ : List Addr} {h h' : Heap} (im : Imm h h') {v : Value} {d : D} (x : V B ρ h v d) : V B ρ h' v d := by
 simpa using V.mono (new := []) im x
theorem VL.mono0 {B : Heap} {ρ : List Addr} {h h' : Heap} (im : Imm h h') {vs : List Value} {ds : List D} (x : VL B ρ h vs ds) : VL B ρ h' vs ds := by
 simpa using VL.mono (new := []) im x
section
variable {B : Heap} {ρ : List Addr} {h : Heap} {v : Value} {d : D} {vs ws : List Value} {ds es : List D}
theorem VL.length (x : VL B ρ h vs ds) : vs.length = ds.length := by
 induction vs generalizing ds with
 | nil => refine VL.elid x fun zq => ?_; clear x; subst zq; rfl
 | cons v vs ih => cases x with | cons _ r => rw [List.length_cons, List.length_cons, ih r]
theorem VL.append (x : VL B ρ h vs ds) (y : VL B ρ h ws es) : VL B ρ h (vs ++ ws) (ds ++ es) := by
 induction vs generalizing ds with
 | nil => refine VL.elid x fun zq => ?_; clear x; subst zq; exact y
 | cons v vs ih => cases x with | cons a r => exact .cons a (ih r)
theorem VL.one (x : V B ρ h v d) : VL B ρ h [v] [d] := .cons x .nil
theorem VL.get (x : VL B ρ h vs ds) {k : Nat} {d : D} (hk : ds[k]? = some d) : ∃ v, vs[k]? = some v ∧ V B ρ h v d := by
 induction vs generalizing ds k with
 | nil => refine VL.elid x fun zq => ?_; clear x; subst zq; simp at hk
 | cons v vs ih =>
  refine VL.elid x fun O O a r zq => ?_;clear x;subst zq
  cases k with
  | zero => simp at hk; subst hk; exact ⟨v, rfl, a⟩
  | succ k => simpa using ih r (by simpa using hk)
theorem VL.take (x : VL B ρ h vs ds) (n : Nat) : VL B ρ h (vs.take n) (ds.take n) := by
 induction vs generalizing ds n with
 | nil => refine VL.elid x fun zq => ?_; clear x; subst zq; simpa using VL.nil
 | cons v vs ih => cases x with
  | cons a r => cases n with
   | zero => simpa using VL.nil
   | succ n => simpa using VL.cons a (ih r n)
theorem VL.drop (x : VL B ρ h vs ds) (n : Nat) : VL B ρ h (vs.drop n) (ds.drop n) := by
 induction vs generalizing ds n with
 | nil => refine VL.elid x fun zq => ?_; clear x; subst zq; simpa using VL.nil
 | cons v vs ih => cases x with
  | cons a r => cases n with
   | zero => simpa using VL.cons a r
   | succ n => simpa using ih r n
theorem VL.reverse (x : VL B ρ h vs ds) : VL B ρ h vs.reverse ds.reverse := by
 induction vs generalizing ds with
 | nil => refine VL.elid x fun zq => ?_; clear x; subst zq; simpa using VL.nil
 | cons v vs ih => cases x with
  | cons a r => simpa using VL.append (ih r) (VL.one a)
theorem VL.set (x : VL B ρ h vs ds) (n : Nat) (y : V B ρ h v d) : VL B ρ h (vs.set n v) (ds.set n d) := by
 induction vs generalizing ds n with
 | nil => refine VL.elid x fun zq => ?_; clear x; subst zq; simpa using VL.nil
 | cons v' vs ih => cases x with
  | cons a r => cases n with
   | zero => simpa using VL.cons y r
   | succ n => simpa using VL.cons a (ih r n)
theorem VL.snoc (x : VL B ρ h (vs ++ [v]) ds) : ∃ es d, ds = es ++ [d] ∧ VL B ρ h vs es ∧ V B ρ h v d := by
 induction vs generalizing ds with
 | nil => cases x with | cons a r => refine VL.elid r fun zq => ?_; clear r; subst zq; exact ⟨[], _, rfl, .nil, a⟩
 | cons u vs ih => cases x with
  | cons a r =>
   refine el23 (ih r) fun es d zr1 hr hd => ?_;subst zr1;exact in23 (_ :: es) d rfl (.cons a hr) hd
end
inductive EL (B : Heap) (ρ : List Addr) (h : Heap) : List (Str × Value) → List (Str × D) → Prop
 | nil : EL B ρ h [] []
 | cons {k : Str} {v : Value} {d : D} {kvs : List (Str × Value)} {es : List (Str × D)} (hk : PyData.strOk k = true) (hv : V B ρ h v d) (hr : EL B ρ h kvs es) : EL B ρ h ((k, v) :: kvs) ((k, d) :: es)
theorem EL.mono {B : Heap} {ρ new : List Addr} {h h' : Heap} (im : Imm h h') {kvs : List (Str × Value)} {es : List (Str × D)} (x : EL B ρ h kvs es) : EL B (ρ ++ new) h' kvs es := by
 induction x with
 | nil => exact .nil
 | cons hk hv _ ih => exact .cons hk (hv.mono im) ih
noncomputable def HO (prog : Program) (w : World) (B : Heap) (ρ : List Addr) (h : Heap) (a : Addr) : AO → Prop
 | .list ds => ∃ vs, h.PlainList a vs ∧ VL B ρ h vs.toList ds
 | .dict es => ∃ kvs, h.DictOf (strKind prog w) a kvs ∧ EL B ρ h kvs es
 | .inst C j => ∃ dx, ρ[j]? = some dx ∧ h.get? a = some (instObj C dx)
theorem HO.live {prog : Program} {w : World} {B : Heap} {ρ : List Addr} {h : Heap} {a : Addr} {o : AO} (x : HO prog w B ρ h a o) : ∃ ob, h.get? a = some ob ∧ immO ob = false := by
 cases o with
 | list ds => refine el12 x fun vs zq1 O => ?_; clear x; refine el11 zq1 fun n e => ?_; clear zq1; exact ⟨_, e, by simp [immO]⟩
 | dict es => refine el12 x fun kvs zq1 O => ?_; clear x; refine el34 zq1 fun o es ep e O hd O => ?_; clear zq1; exact ⟨_, e, by simp [immO, hd]⟩
 | inst C j => refine el12 x fun dx O e => ?_; clear x; exact ⟨_, e, rfl⟩
theorem HO.mono {prog : Program} {w : World} {B : Heap} {ρ new : List Addr} {h h' : Heap} {a : Addr} {o : AO} (x : HO prog w B ρ h a o) (im : Imm h h') (hk : ∀ ob, h.get? a = some ob → h'.get? a = some ob) : HO prog w B (ρ ++ new) h' a o := by
 cases o with
 | list ds => refine el12 x fun vs zq1 hv => ?_; clear x; refine el11 zq1 fun n e => ?_; clear zq1; exact ⟨vs, ⟨n, hk _ e⟩, hv.mono im⟩
 | dict es => refine el12 x fun kvs zq1 hv => ?_; clear x; refine el32 zq1 fun o es' ep e r => ?_; clear zq1; exact ⟨kvs, ⟨o, es', ep, hk _ e, r⟩, hv.mono im⟩
 | inst C j => refine el12 x fun dx hj e => ?_; clear x; exact ⟨dx, by rw [List.getElem?_append_left (List.getElem?_eq_some_iff.mp hj).1]; exact hj, hk _ e⟩
structure WR (prog : Program) (w : World) (B : Heap) (ρ : List Addr) (H : AH) (h : Heap) : Prop where
 base : ∀ b o, B.get? b = some o → h.get? b = some o
 nd : ρ.Nodup
 off : ∀ a ∈ ρ, B.get? a = none
 len : ρ.length = H.length
 obj : ∀ (i : Nat) (o : AO) (a : Addr), H[i]? = some o → ρ[i]? = some a → HO prog w B ρ h a o
section
variable {prog : Program} {w : World} {B : Heap} {ρ new : List Addr} {H : AH} {h h' : Heap}
theorem WR.at (W : WR prog w B ρ H h) {i : Nat} {o : AO} (hi : H[i]? = some o) : ∃ a, ρ[i]? = some a ∧ HO prog w B ρ h a o := by
 have hl := (List.getElem?_eq_some_iff.mp hi).1
 have hr : i < ρ.length := by rw [W.len]; exact hl
 exact in12 (ρ[i]) (List.getElem?_eq_getElem hr) (W.obj i o _ hi (List.getElem?_eq_getElem hr))
theorem WR.mem (W : WR prog w B ρ H h) {a : Addr} (ha : a ∈ ρ) : ∃ ob, h.get? a = some ob ∧ immO ob = false := by
 obtain ⟨i, hi, rfl⟩ := List.mem_iff_getElem.mp ha
 have hl : i < H.length := by rw [← W.len]; exact hi
 exact (W.obj i H[i] _ (List.getElem?_eq_getElem hl) (List.getElem?_eq_getElem hi)).live
structure Off (B : Heap) (ρ : List Addr) (h : Heap) (X : Addr → Prop) : Prop where
 ρ : ∀ a, X a → a ∉ ρ
 base : ∀ a, X a → B.get? a = none
 imm : ∀ a o, X a → h.get? a = some o → immO o = false
theorem WR.imm (W : WR prog w B ρ H h) {X : Addr → Prop} (hX : ∀ a o, X a → h.get? a = some o → immO o = false) (hk : ∀ b o, b ∉ ρ → ¬ X b → h.get? b = some o → h'.get? b = some o) : Imm h h' := by
 intro b o e hi
 by_cases hb : b ∈ ρ
 ·refine el12 (W.mem hb) fun ob e' hi' => ?_;rw [e] at e'; cases e'; rw [hi] at hi'; cases hi'
 ·by_cases hx : X b
  ·rw [hX b o hx e] at hi; exact ff hi
  ·exact hk b o hb hx e
theorem WR.step (W : WR prog w B ρ H h) {X : Addr → Prop} (O : Off B ρ h X) (hk : ∀ b o, ¬ X b → h.get? b = some o → h'.get? b = some o) : WR prog w B ρ H h' where
 base := fun b o e => hk b o (fun hx => by rw [O.base b hx] at e; cases e) (W.base b o e)
 nd := W.nd
 off := W.off
 len := W.len
 obj := fun i o a hi hr => by
  have im : Imm h h' := W.imm O.imm fun b o U hx e => hk b o hx e;have := HO.mono (new := []) (W.obj i o a hi hr) im fun ob e => hk a ob (fun hx => O.ρ a hx (List.mem_of_getElem? hr)) e;simpa using this
theorem Off.none (B : Heap) (ρ : List Addr) (h : Heap) : Off B ρ h fun _ => False := ⟨fun _ x => x.elim, fun _ x => x.elim, fun _ _ x => x.elim⟩
theorem WR.keep (W : WR prog w B ρ H h) (hk : ∀ b o, h.get? b = some o → h'.get? b = some o) : WR prog w B ρ H h' := W.step (Off.none ..) fun b o O e => hk b o e
theorem WR.alloc (W : WR prog w B ρ H h) {a : Addr} {o : AO} (hn : h.get? a = Option.none) (hk : ∀ b o, h.get? b = some o → h'.get? b = some o) (ho : HO prog w B (ρ ++ [a]) h' a o) : WR prog w B (ρ ++ [a]) (H ++ [o]) h' where
 base := fun b o e => hk b o (W.base b o e)
 nd := List.nodup_append.mpr ⟨W.nd, by simp, fun x hx y hy e => by
  refine el12 (W.mem hx) fun ob e' _ => ?_
  rw [List.mem_singleton.mp hy] at e; rw [e, hn] at e'; cases e'⟩
 off := fun x hx => by
  rcases List.mem_append.mp hx with hx | hx
  ·exact W.off x hx
  ·rw [List.mem_singleton.mp hx]
   cases e : B.get? a with
   | none => rfl
   | some o => rw [W.base a o e] at hn; cases hn
 len := by rw [List.length_append, List.length_append, W.len]; rfl
 obj := fun i o' b hi hr => by
  by_cases hl : i < H.length
  ·rw [List.getElem?_append_left hl] at hi;rw [List.getElem?_append_left (by rw [W.len]; exact hl)] at hr;exact (W.obj i o' b hi hr).mono (fun b o e _ => hk b o e) fun ob e => hk _ _ e
  ·have hi2 : i = H.length := by
    have := (List.getElem?_eq_some_iff.mp hi).1;rw [List.length_append, List.length_singleton] at this;exact Nat.le_antisymm (ln1 1409601 95849857601 [_,_] [] this) (ln1 1409601 1409601 [_,_] [] (Nat.le_of_not_lt hl))
   subst hi2;rw [List.getElem?_append_right (Nat.le_refl _), Nat.sub_self] at hi;rw [← W.len, List.getElem?_append_right (Nat.le_refl _), Nat.sub_self] at hr;simp at hi hr;subst hi hr;exact ho
theorem WR.set (W : WR prog w B ρ H h) {i : Nat} {a : Addr} {o : AO} (hr : ρ[i]? = some a) (hk : ∀ b o, b ≠ a → h.get? b = some o → h'.get? b = some o) (ho : HO prog w B ρ h' a o) : WR prog w B ρ (H.set i o) h' where
 base := fun b o e => hk b o (fun e' => by rw [e', W.off a (List.mem_of_getElem? hr)] at e; cases e) (W.base b o e)
 nd := W.nd
 off := W.off
 len := by rw [List.length_set, W.len]
 obj := fun j o' b hj hb => by
  by_cases hij : i = j
  ·subst hij
   have hl : i < H.length := by have := (List.getElem?_eq_some_iff.mp hj).1; rwa [List.length_set] at this
   rw [List.getElem?_set_self hl] at hj;rw [hr] at hb;revert o'; refine sm1 ?_; revert b; refine sm1 ?_;exact ho
  ·rw [List.getElem?_set_ne hij] at hj
   have hba : b ≠ a := by
    rintro rfl
    exact hij ((List.getElem?_inj (List.getElem?_eq_some_iff.mp hr).1 W.nd).mp (by rw [hr, hb]))
   have im : Imm h h' := by
    intro c oc e hi;refine hk c oc (fun e' => ?_) e;refine el12 (W.mem (List.mem_of_getElem? hr)) fun ob e2 hi2 => ?_;rw [e', e2] at e; cases e; rw [hi] at hi2; cases hi2
   have := HO.mono (new := []) (W.obj j o' b hj hb) im fun ob e => hk b ob hba e;simpa using this
end
structure Run (ρ : List Addr) (X : Addr → Prop) (s : Shared) (ρ' : List Addr) (s' : Shared) : Prop where
 sh : ∃ h' tk, s' = { s with heap := h', toks := tk }
 ext : ∃ new, ρ' = ρ ++ new ∧ ∀ a ∈ new, s.heap.get? a = none
 kp : ∀ b o, b ∉ ρ → ¬ X b → s.heap.get? b = some o → s'.heap.get? b = some o
 lv : ∀ b o, s.heap.get? b = some o → ∃ o', s'.heap.get? b = some o'
theorem Run.refl (ρ : List Addr) (X : Addr → Prop) (s : Shared) : Run ρ X s ρ s := ⟨⟨s.heap, s.toks, rfl⟩, ⟨[], by simp, fun O h => nomatch h⟩, fun O O O O e => e, fun O o e => ⟨o, e⟩⟩
theorem Run.tk {ρ : List Addr} {X : Addr → Prop} {s : Shared} {tk : Nat} : Run ρ X s ρ { s with toks := tk } := ⟨⟨s.heap, tk, rfl⟩, ⟨[], by simp, fun O h => nomatch h⟩, fun O O O O e => e, fun O o e => ⟨o, e⟩⟩
theorem Run.keep {ρ : List Addr} {X : Addr → Prop} {s : Shared} {h' : Heap} {tk : Nat} (hk : ∀ b o, s.heap.get? b = some o → h'.get? b = some o) : Run ρ X s ρ { s with heap := h', toks := tk } :=
 ⟨⟨h', tk, rfl⟩, ⟨[], by simp, fun O h => nomatch h⟩, fun b o O O e => hk b o e, fun b o e => ⟨o, hk b o e⟩⟩
theorem Run.but {ρ : List Addr} {X : Addr → Prop} {s : Shared} {h' : Heap} {tk : Nat} {a : Addr} (ha : a ∈ ρ ∨ X a) (hk : ∀ b o, b ≠ a → s.heap.get? b = some o → h'.get? b = some o) (hl : ∃ o, h'.get? a = some o) : Run ρ X s ρ { s with heap := h', toks := tk } :=
 ⟨⟨h', tk, rfl⟩, ⟨[], by simp, fun O h => nomatch h⟩, fun b o hb hx e => hk b o (by rintro rfl; exact ha.elim hb hx) e, fun b o e => by
  by_cases hb : b = a
  ·subst hb; exact hl
  ·exact ⟨o, hk b o hb e⟩⟩
theorem Run.one {ρ : List Addr} {X : Addr → Prop} {s : Shared} {h' : Heap} {tk : Nat} {a : Addr} (ha : s.heap.get? a = none) (hk : ∀ b o, s.heap.get? b = some o → h'.get? b = some o) : Run ρ X s (ρ ++ [a]) { s with heap := h', toks := tk } :=
 ⟨⟨h', tk, rfl⟩, ⟨[a], rfl, fun b hb => by rw [List.mem_singleton.mp hb]; exact ha⟩, fun b o O O e => hk b o e, fun b o e => ⟨o, hk b o e⟩⟩
theorem Run.trans {ρ ρ₁ ρ₂ : List Addr} {X : Addr → Prop} {s s₁ s₂ : Shared} (x : Run ρ X s ρ₁ s₁) (y : Run ρ₁ X s₁ ρ₂ s₂) : Run ρ X s ρ₂ s₂ := by
 obtain ⟨⟨h1, t1, rfl⟩, ⟨n1, rfl, hn1⟩, k1, l1⟩ := x;obtain ⟨⟨h2, t2, rfl⟩, ⟨n2, rfl, hn2⟩, k2, l2⟩ := y;refine ⟨⟨h2, t2, rfl⟩, ⟨n1 ++ n2, by rw [List.append_assoc], fun a ha => ?_⟩, fun b o hb hx e => ?_, fun b o e => ?_⟩
 ·rcases List.mem_append.mp ha with ha | ha
  ·exact hn1 a ha
  ·cases e : s.heap.get? a with
   | none => rfl
   | some o =>
    refine el11 (l1 a o e) fun o' e' => ?_;rw [hn2 a ha] at e'; cases e'
 ·refine k2 b o (fun hm => ?_) hx (k1 b o hb hx e);rcases List.mem_append.mp hm with hm | hm
  ·exact hb hm
  ·rw [hn1 b hm] at e; exact nn e
 ·refine el11 (l1 b o e) fun o' e' => ?_;exact l2 b o' e'
theorem Run.mono {ρ ρ' : List Addr} {X Y : Addr → Prop} {s s' : Shared} (x : Run ρ X s ρ' s') (h : ∀ a, X a → Y a) : Run ρ Y s ρ' s' := ⟨x.sh, x.ext, fun b o hb hy e => x.kp b o hb (fun hx => hy (h b hx)) e, x.lv⟩
end Mine
end

-- D
section
open PySem PySem.Calls PyProof.Rows PySem.W
namespace Mine
noncomputable def kcl : Option NameKind → Nat
 | none => 0
 | some .local => 1
 | some .cell | some .free => 2
 | some .globalImplicit => 3
 | some .globalExplicit => 4
structure FR (B : Heap) (ρ : List Addr) (h : Heap) (env : Env) (nm : Nms) (loc : Loc) : Prop where
 kind : env.scope.kind = .function
 gl : env.globals = mainGlobals
 bu : env.builtins = builtinsNs
 kn : ∀ x, kcl (env.kindOf x) = kcl (nm.lookup x)
 kc : ∀ x, nm.lookup x = some .cell → env.kindOf x = some .cell
 ns : ∃ m, h.Ns env.locals m ∧ ∀ x d, nm.lookup x = some .local → look loc x = some d → ∃ v, m x = some v ∧ V B ρ h v d
 lρ : env.locals ∉ ρ
 lB : B.get? env.locals = none
 cells : ∀ x, cellish (nm.lookup x) = true → ∃ a ov, env.cells.lookup x = some a ∧ h.IsCell a ov ∧ a ∉ ρ ∧ B.get? a = none ∧ ∀ d, look loc x = some d → ∃ v, ov = some v ∧ V B ρ h v d
 inj : ∀ x y a, cellish (nm.lookup x) = true → cellish (nm.lookup y) = true → env.cells.lookup x = some a → env.cells.lookup y = some a → x = y
noncomputable def Own (env : Env) (nm : Nms) (a : Addr) : Prop := a = env.locals ∨ ∃ x, nm.lookup x = some .cell ∧ env.cells.lookup x = some a
section
variable {prog : Program} {w : World} {B : Heap} {ρ ρ' : List Addr} {H H' : AH} {h h' : Heap} {env : Env} {nm : Nms} {loc : Loc} {s s' : Shared}
theorem FR.off (F : FR B ρ h env nm loc) : Off B ρ h (Own env nm) where
 ρ := fun a ha => by
  rcases ha with rfl | ⟨x, hx, ha⟩
  ·exact F.lρ
  ·refine el24 (F.cells x (by rw [hx]; rfl)) fun a' ov e O h1 O => ?_;rw [ha] at e; cases e; exact h1
 base := fun a ha => by
  rcases ha with rfl | ⟨x, hx, ha⟩
  ·exact F.lB
  ·refine el25 (F.cells x (by rw [hx]; rfl)) fun a' ov e O O h1 O => ?_;rw [ha] at e; cases e; exact h1
 imm := fun a o ha ho => by
  rcases ha with rfl | ⟨x, hx, ha⟩
  ·refine el12 (F.ns) fun m zq1 O => ?_;refine el33 zq1 fun o' es ep e hd O => ?_;clear zq1;rw [ho] at e; cases e;simp [immO, hd]
  ·refine el23 (F.cells x (by rw [hx]; rfl)) fun a' ov e zq1 O => ?_;refine el12 zq1 fun o' e' hd => ?_;clear zq1;rw [ha] at e; cases e;rw [ho] at e'; cases e';simp [immO, hd]
theorem Run.imm (R : Run ρ (fun _ => False) s ρ' s') (W : WR prog w B ρ H s.heap) : Imm s.heap s'.heap :=
 W.imm (X := fun _ => False) (fun _ _ x => x.elim) R.kp
theorem Run.V (R : Run ρ (fun _ => False) s ρ' s') (W : WR prog w B ρ H s.heap) {v : Value} {d : D} (x : Mine.V B ρ s.heap v d) : Mine.V B ρ' s'.heap v d := by
 refine el12 (R.ext) fun new zr1 _ => ?_;subst zr1;exact x.mono (R.imm W)
theorem Run.VL (R : Run ρ (fun _ => False) s ρ' s') (W : WR prog w B ρ H s.heap) {vs : List Value} {ds : List D} (x : Mine.VL B ρ s.heap vs ds) : Mine.VL B ρ' s'.heap vs ds := by
 refine el12 (R.ext) fun new zr1 _ => ?_;subst zr1;exact x.mono (R.imm W)
theorem FR.run (F : FR B ρ s.heap env nm loc) (W : WR prog w B ρ H s.heap) (R : Run ρ (fun _ => False) s ρ' s') : FR B ρ' s'.heap env nm loc := by
 have im := R.imm W;refine el12 (R.ext) fun new zr1 hn => ?_;subst zr1;have keepNs : ∀ {m}, s.heap.Ns env.locals m → s'.heap.Ns env.locals m := fun ⟨o, es, ep, e, r⟩ => ⟨o, es, ep, R.kp _ _ F.lρ (fun x => x) e, r⟩;refine ⟨F.kind, F.gl, F.bu, F.kn, F.kc, ?_, ?_, F.lB, ?_, F.inj⟩
 ·refine el12 (F.ns) fun m hm hv => ?_;refine in12 m (keepNs hm) (fun x d hx hd => ?_);refine el12 (hv x d hx hd) fun v e hv => ?_;exact in12 v e (hv.mono im)
 ·intro hm;rcases List.mem_append.mp hm with hm | hm
  ·exact F.lρ hm
  ·refine el12 (F.ns) fun m zq1 _ => ?_;refine el32 zq1 fun o _ _ e _ => ?_;clear zq1;rw [hn _ hm] at e; exact nn e
 ·intro x hx;refine el25 (F.cells x hx) fun a ov e zq1 h1 h2 h3 => ?_;refine el12 zq1 fun oc ho hd => ?_;clear zq1;refine in25 a ov e ⟨oc, R.kp _ _ h1 (fun x => x) ho, hd⟩ (fun hm => ?_) h2 (fun d hd => ?_)
  ·rcases List.mem_append.mp hm with hm | hm
   ·exact h1 hm
   ·rw [hn _ hm] at ho; exact nn ho
  ·refine el12 (h3 d hd) fun v e hv => ?_;exact in12 v e (hv.mono im)
theorem Run.base (R : Run ρ (fun _ => False) s ρ' s') (W : WR prog w B ρ H s.heap) : ∀ b o, B.get? b = some o → s'.heap.get? b = some o := fun b o e =>
 R.kp b o (fun hm => by rw [W.off b hm] at e; cases e) (fun x => x) (W.base b o e)
end
theorem look_put {loc : Loc} {x y : Str} {d : D} : ∀ {e : D}, look (put loc x d) y = some e → (y = x ∧ e = d) ∨ (y ≠ x ∧ look loc y = some e) := by
 induction loc with
 | nil => intro e h; simp [put, look] at h
 | cons p r ih =>
  obtain ⟨z, o⟩ := p;intro e h;unfold put at h
  by_cases hz : z = x
  ·subst hz;simp only [beq_self_eq_true, if_true] at h
   by_cases hy : y = z
   ·subst hy; simp [look, List.lookup_cons] at h; exact .inl ⟨rfl, h.symm⟩
   ·have hb : (y == z) = false := by simpa using hy
    simp only [look, List.lookup_cons, hb] at h;exact .inr ⟨hy, by simpa only [look, List.lookup_cons, hb] using h⟩
  ·have hb : (z == x) = false := by simpa using hz
   simp only [hb, Bool.false_eq_true, if_false] at h
   by_cases hy : y = z
   ·subst hy;simp [look, List.lookup_cons] at h;exact .inr ⟨hz, by simpa [look, List.lookup_cons] using h⟩
   ·have hb2 : (y == z) = false := by simpa using hy
    have h' : look (put r x d) y = some e := by simpa only [look, List.lookup_cons, hb2] using h
    rcases ih h' with h1 | ⟨h1, h2⟩
    ·exact .inl h1
    ·exact .inr ⟨h1, by simpa only [look, List.lookup_cons, hb2] using h2⟩
structure FnOk (prog : Program) (w : World) (B : Heap) (a : Addr) (f : Fn) : Prop where
 ex : ∃ o fd, B.get? a = some o ∧ o.data = .func fd ∧ fd.body = .stmts f.body ∧ fd.scope.kind = .function ∧ fd.scope.isCoroutine = false ∧ fd.scope.isGenerator = false ∧ fd.scope.names = f.names ∧
  fd.globals = mainGlobals ∧ fd.builtins = builtinsNs ∧ fd.closure = [] ∧ B.CodeRec fd.code fd.qualname ∧
  ∀ (A : Around) (E : Value → Shared → Prop) (s : Shared) (vals : List Value), (∀ b o, B.get? b = some o → s.heap.get? b = some o) → vals.length ≤ f.params.length → f.params.length ≤ vals.length + f.dfl.length →
   ∃ dv, VL B [] B dv (f.dfl.drop (f.dfl.length - (f.params.length - vals.length))) ∧ ∀ Q : List (Str × Value) → Shared → Prop, Q (f.params.zip (vals ++ dv)) s → wpAny (model prog w) A (bindArgs fd ⟨vals, []⟩) Q E s
 nd : (f.names.map (·.1)).Nodup
 par : ∀ x ∈ f.params, isOwn (f.names.lookup x) = true
 pnd : f.params.Nodup
 nofree : ∀ x, (x, NameKind.free) ∉ f.names
noncomputable def ClOk (K : Frag) (C : Addr) (c : Cl) : Prop :=
 makesIn K C = true ∧ findIn K (.ref C) "__init__" = some (some (.ref c.init)) ∧ typeIn K (.ref c.init) = some (.type "function") ∧ keepIn K (.ref C) = true ∧
 plainGet K C "" = true ∧ hasDictIn K C = true ∧ plainOver K C = true ∧ findIn K (.ref C) "__setattr__" = some (some (.builtin "object.__setattr__")) ∧
 (∀ p ∈ c.meths, findIn K (.ref C) p.1 = some (some (.ref p.2)) ∧ isFn K (.ref p.2) = true) ∧
 (∀ x ∈ c.attrs, findIn K (.ref C) x = some none ∧ takerIn K C x = some none)
structure GOk (prog : Program) (w : World) (B : Heap) (ge : GE) (K : Frag) : Prop where
 kin : K.In B
 nol : B.NoLimit
 sys : (B.get? sysModules).isSome = true
 names : ∃ mg mb, B.Ns mainGlobals mg ∧ B.Ns builtinsNs mb ∧ ∀ x d, ge.glob x = some d → ∃ v, (mg x = some v ∨ (mg x = none ∧ mb x = some v)) ∧ V B [] B v d
 fns : ∀ a f, ge.fn a = some f → FnOk prog w B a f
 cls : ∀ C c, ge.cls C = some c → ClOk K C c
 mth : ∀ C c, ge.cls C = some c → ∀ p ∈ c.meths, ∃ f, ge.fn p.2 = some f
structure AOk (n : Nat) (A : Around) : Prop where
 hd : A.handled = none
 gd : A.guards = some []
 dp : A.depth + 2 * n < 990
 un : A.units + 10 * n < 9000
noncomputable def PE (prog : Program) (w : World) (B : Heap) (ρ : List Addr) (s : Shared) (H' : AH) (d : D) (v : Value) (s' : Shared) : Prop :=
 ∃ ρ', Run ρ (fun _ => False) s ρ' s' ∧ WR prog w B ρ' H' s'.heap ∧ V B ρ' s'.heap v d
noncomputable abbrev F0 : Value → Shared → Prop := fun _ _ => False
theorem any0 {α : Type} {M : Model} {A : Around} {t : Sem α} {Q Q' : α → Shared → Prop} {E : Value → Shared → Prop} {s : Shared} (h : wpAny M A t Q F0 s) (k : ∀ a s', Q a s' → Q' a s') : wpAny M A t Q' E s :=
 wpAny_mono h k fun O O x => x.elim
theorem PE.here {prog : Program} {w : World} {B : Heap} {ρ : List Addr} {s : Shared} {H : AH} {d : D} {v : Value} (W : WR prog w B ρ H s.heap) (x : V B ρ s.heap v d) {tk : Nat} : PE prog w B ρ s H d v { s with toks := tk } :=
 ⟨ρ, Run.tk, W, x⟩
theorem PE.after {prog : Program} {w : World} {B : Heap} {ρ ρ₁ : List Addr} {s s₁ s' : Shared} {H : AH} {d : D} {v : Value} (R : Run ρ (fun _ => False) s ρ₁ s₁) (x : PE prog w B ρ₁ s₁ H d v s') : PE prog w B ρ s H d v s' := by
 revert x;intro zh1;refine el13 zh1 fun ρ' R' W' x => ?_;clear zh1;exact in13 (ρ') (R.trans R') W' x
section
variable {prog : Program} {w : World} {B : Heap} {ge : GE} {K : Frag} {ρ : List Addr} {H : AH} {env : Env} {nm : Nms} {loc : Loc} {s : Shared} {A : Around}
theorem kcl_local {a b : Option NameKind} (h : kcl a = kcl b) (hb : b = some .local) : a = some .local := by
 subst hb
 cases a with
 | none => simp [kcl] at h
 | some k => cases k <;> simp [kcl] at h <;> rfl
theorem kcl_glob {a b : Option NameKind} (h : kcl a = kcl b) (hb : b = some .globalImplicit) : a = some .globalImplicit := by
 subst hb
 cases a with
 | none => simp [kcl] at h
 | some k => cases k <;> simp [kcl] at h <;> rfl
theorem kcl_cell {a b : Option NameKind} (h : kcl a = kcl b) (hb : cellish b = true) : a = some .cell ∨ a = some .free := by
 cases b with
 | none => simp [cellish] at hb
 | some k => cases k <;> simp [cellish] at hb <;> (cases a with | none => simp [kcl] at h | some k => cases k <;> simp [kcl] at h <;> simp)
set_option tactic.hygienic true in
theorem s_name {x : Str} {pos : Pos} {d : D} (G : GOk prog w B ge K) (W : WR prog w B ρ H s.heap) (F : FR B ρ s.heap env nm loc) (e : nameVal ge nm loc x = some d) :
  wpAny (model prog w) A (eval (.Name x pos) env) (PE prog w B ρ s H d) F0 s := by
 revert e;refine ifn fun hn e => ?_;simp only [Bool.or_eq_true, not_or, Bool.not_eq_true] at hn;refine wpAny_Name ?_ hn.1
 split at e
 ·rename_i hl;unfold isLoc at hl;rcases Bool.or_eq_true_iff.mp hl with h1 | h1
  ·have h2 : nm.lookup x = some .local := by
    cases q : nm.lookup x with
    | none => rw [q] at h1; exact ff h1
    | some k => rw [q] at h1; cases k <;> first | rfl | cases h1
   refine el12 (F.ns) fun m hm hv => ?_;refine el12 (hv x d h2 e) fun v e1 e2 => ?_;exact wpAny_loadName_local F.kind (kcl_local (F.kn x) h2) hm e1 (PE.here (tk := s.toks) W e2)
  ·refine el25 (F.cells x h1) fun a ov e1 e2 _ _ e3 => ?_;refine el12 (e3 d e) fun v zr1 e4 => ?_;subst zr1;rcases kcl_cell (F.kn x) h1 with hk | hk
   ·exact wpAny_loadName_cell F.kind hk e1 e2 (PE.here (tk := s.toks) W e4)
   ·exact wpAny_loadName_free F.kind hk e1 e2 (PE.here (tk := s.toks) W e4) hn.2
 ·revert e;refine ifs fun hg e => ?_
  ·have h2 : nm.lookup x = some .globalImplicit := by
    cases q : nm.lookup x with
    | none => rw [q] at hg; exact ff hg
    | some k => rw [q] at hg; cases k <;> first | rfl | cases hg
   rw [loadName_read F.kind (kcl_glob (F.kn x) h2)];refine el23 (G.names) fun mg mb n1 n2 hx => ?_;refine el12 (hx x d e) fun v hv hV => ?_
   have hV' : V B ρ s.heap v d := by
    have := hV.mono (new := ρ) (h' := s.heap) fun b o e _ => W.base b o e;simpa using this
   unfold loadGlobal;rw [F.gl, F.bu];refine wpAny_bind (wpAny_nsGet (n1.keeps W.base) ?_);rcases hv with hv | ⟨hv, hv2⟩
   ·rw [hv]; exact wpAny_pure (PE.here (tk := s.toks) W hV')
   ·rw [hv];refine wpAny_bind (wpAny_nsGet (n2.keeps W.base) ?_);rw [hv2]; exact wpAny_pure (PE.here (tk := s.toks) W hV')
end
end Mine
end

-- E
section
namespace Mine
section
variable {prog : Program} {w : World} {B : Heap} {ge : GE} {K : Frag} {ρ : List Addr} {H : AH} {env : Env} {nm : Nms} {loc : Loc} {s : Shared} {A : Around}
theorem listAt_eq {i : Nat} {ds : List D} (e : listAt H i = some ds) : H[i]? = some (.list ds) := by
 revert e; refine ooL fun ds' h e => ?_; cases e; exact h
theorem dictAt_eq {i : Nat} {es : List (Str × D)} (e : dictAt H i = some es) : H[i]? = some (.dict es) := by
 revert e; refine ooD fun ds' h e => ?_; cases e; exact h
theorem WR.list {h : Heap} (W : WR prog w B ρ H h) {i : Nat} {a : Addr} {ds : List D} (e : listAt H i = some ds) (hr : ρ[i]? = some a) : ∃ vs, h.PlainList a vs ∧ VL B ρ h vs.toList ds :=
 W.obj i _ a (listAt_eq e) hr
theorem WR.dict {h : Heap} (W : WR prog w B ρ H h) {i : Nat} {a : Addr} {es : List (Str × D)} (e : dictAt H i = some es) (hr : ρ[i]? = some a) : ∃ kvs, h.DictOf (strKind prog w) a kvs ∧ EL B ρ h kvs es :=
 W.obj i _ a (dictAt_eq e) hr
theorem depthAll_le {n : Nat} : ∀ {ps : List PyData}, (∀ p ∈ ps, p.depth ≤ n) → PyData.depthAll ps ≤ n
 | [], _ => Nat.zero_le _
 | p :: ps, h => Nat.max_le.mpr ⟨h p (.head _), depthAll_le fun q hq => h q (.tail _ hq)⟩
theorem canLayAll_of : ∀ {ps : List PyData}, (∀ p ∈ ps, p.canLay0 = true) → PyData.canLayAll0 ps = true
 | [], _ => rfl
 | p :: ps, h => by
  show (p.canLay0 && PyData.canLayAll0 ps) = true
  rw [h p (.head _), canLayAll_of fun q hq => h q (.tail _ hq)]; rfl
theorem omap_reads {f : D → Option PyData} {h : Heap} {n : Nat} (hf : ∀ d p v, f d = some p → V B ρ h v d → (∃ as, Reads h v p as) ∧ p.canLay0 = true ∧ p.depth ≤ n) :
  ∀ (ds : List D) (ps : List PyData) (vs : List Value), omap f ds = some ps → VL B ρ h vs ds → (∃ as, ReadsAll h vs ps as) ∧ (∀ p ∈ ps, p.canLay0 = true) ∧ (∀ p ∈ ps, p.depth ≤ n)
 | [], ps, vs, e, x => by cases e; refine VL.elim x fun zq => ?_; clear x; subst zq; exact ⟨⟨[], .nil⟩, fun _ h => (nomatch h), fun _ h => (nomatch h)⟩
 | d :: ds, ps, vs, e, x => by
  unfold omap at e
  cases h1 : f d with
  | none => rw [h1] at e; exact nn e
  | some p =>
   cases h2 : omap f ds with
   | none => rw [h1, h2] at e; exact nn e
   | some ps' =>
    rw [h1, h2] at e;revert ps;refine sm1 ?_;refine VL.elim x fun _ _ a r zq => ?_;clear x;subst zq;refine el03 (hf d p _ h1 a) fun zq1 c1 c2 => ?_;refine el11 zq1 fun as ra => ?_;clear zq1;refine el03 (omap_reads hf ds ps' _ h2 r) fun zq1 d1 d2 => ?_;refine el11 zq1 fun bs rb => ?_;clear zq1;exact in03 ⟨as ++ bs, .cons ra rb⟩ (fun q hq => (List.mem_cons.mp hq).elim (fun e => e ▸ c1) (d1 q)) (fun q hq => (List.mem_cons.mp hq).elim (fun e => e ▸ c2) (d2 q))
theorem leaf_reads {h : Heap} {v : Value} {d : D} {p : PyData} (x : V B ρ h v d) (e : leaf d = some p) : (∃ as, Reads h v p as) ∧ p.canLay0 = true ∧ p.depth = 0 := by
 cases x with
 | none => cases e; exact ⟨⟨_, .none⟩, by simp [PyData.canLay0], by simp [PyData.depth]⟩
 | bool b => cases e; exact ⟨⟨_, .bool b⟩, by simp [PyData.canLay0], by simp [PyData.depth]⟩
 | int i t => cases e; exact ⟨⟨_, .int i t⟩, by simp [PyData.canLay0], by simp [PyData.depth]⟩
 | str y t hy => cases e; exact ⟨⟨_, .str y t⟩, by simpa [PyData.canLay0] using hy, by simp [PyData.depth]⟩
 | _ => exact nn e
theorem py_reads {h : Heap} (W : WR prog w B ρ H h) : ∀ (n : Nat) (d : D) (p : PyData) (v : Value), py H n d = some p → V B ρ h v d → (∃ as, Reads h v p as) ∧ p.canLay0 = true ∧ p.depth ≤ n := by
 intro n
 induction n with
 | zero =>
  intro d p v e x;refine el03 (leaf_reads x e) fun a b c => ?_;exact in03 a b (by rw [c]; exact Nat.le_refl _)
 | succ n ih =>
  intro d p v e x;have seqs := omap_reads (B := B) (ρ := ρ) (h := h) ih
  have lf : ∀ {v : Value} {d : D} p, leaf d = some p → V B ρ h v d → (∃ as, Reads h v p as) ∧ p.canLay0 = true ∧ p.depth ≤ n + 1 := fun p e' x => by
   refine el03 (leaf_reads x e') fun a b c => ?_;exact in03 a b (by rw [c]; exact Nat.zero_le _)
  cases x with
  | tup ho hv =>
   refine el12 (Option.map_eq_some_iff.1 e) fun ps e1 zr1 => ?_;subst zr1;refine el03 (seqs _ ps _ e1 hv) fun zq1 c1 c2 => ?_;refine el11 zq1 fun as r => ?_;clear zq1;exact in03 ⟨_, .tuple ho rfl rfl r⟩ (canLayAll_of c1) (Nat.succ_le_succ (depthAll_le c2))
  | fl ho hv =>
   refine el12 (Option.map_eq_some_iff.1 e) fun ps e1 zr1 => ?_;subst zr1;refine el03 (seqs _ ps _ e1 hv) fun zq1 c1 c2 => ?_;refine el11 zq1 fun as r => ?_;clear zq1;exact in03 ⟨_, .list (W.base _ _ ho) rfl rfl r⟩ (canLayAll_of c1) (Nat.succ_le_succ (depthAll_le c2))
  | ref hi =>
   revert e;refine obL fun ds hl e => ?_;refine el12 (Option.map_eq_some_iff.1 e) fun ps e1 zr1 => ?_;subst zr1;refine el12 (W.list hl hi) fun vs zq1 hv => ?_;refine el11 zq1 fun m ho => ?_;clear zq1;refine el03 (seqs ds ps _ e1 hv) fun zq1 c1 c2 => ?_;refine el11 zq1 fun as r => ?_;clear zq1;exact in03 ⟨_, .list ho rfl rfl r⟩ (canLayAll_of c1) (Nat.succ_le_succ (depthAll_le c2))
  | none => exact lf (d := .none) _ e .none
  | bool b => exact lf (d := .bool b) _ e (.bool b)
  | int i t => exact lf (d := .int i) _ e (.int i t)
  | str y t hy => exact lf (d := .str y) _ e (.str y t hy)
  | _ => exact nn e
noncomputable def PB (t : Bool) (s : Shared) (v : Value) (s' : Shared) : Prop := v = .bool t ∧ ∃ tk, s' = { s with toks := tk }
theorem PB.here {t : Bool} {s : Shared} : PB t s (.bool t) s := ⟨rfl, s.toks, rfl⟩
theorem PB.pe {t : Bool} {v : Value} {s' : Shared} (W : WR prog w B ρ H s.heap) (x : PB t s v s') : PE prog w B ρ s H (.bool t) v s' := by
 refine el02 x fun zr1 zq2 => ?_;clear x;subst zr1;refine el11 zq2 fun tk zr3 => ?_;clear zq2;subst zr3;exact PE.here W (.bool t)
set_option tactic.hygienic true in
theorem AOk.room {n : Nat} (a : AOk n A) {d1 d2 : Nat} (h : d1 ≤ 3) : A.units + min d1 d2 < cLine := by
 have := a.un;have : min d1 d2 ≤ d1 := Nat.min_le_left _ _;rw [cLine_is]; exact ln3 151746594305601 56534481 9705883797512342401 1411241 [_,_,_,_] [] h ‹_› this
set_option tactic.hygienic true in
theorem AOk.room1 {n : Nat} (a : AOk n A) {d1 d2 : Nat} (h : d2 ≤ 3) : A.units + 1 + min d1 d2 < cLine := by
 have := a.un;have : min d1 d2 ≤ d2 := Nat.min_le_right _ _;rw [cLine_is]; exact ln3 9711782035599446401 56534481 9705883797512342401 1411241 [_,_,_,_] [] h ‹_› this
set_option tactic.hygienic true in
theorem s_eq {n : Nat} {a b : D} {t : Bool} {va vb : Value} (a0 : AOk n A) (W : WR prog w B ρ H s.heap) (e : isEq H a b = some t) (xa : V B ρ s.heap va a) (xb : V B ρ s.heap vb b) :
  wpAny (model prog w) A (compareOp .Eq va vb) (PB t s) F0 s := by
 have key : ∀ {p q : PyData}, py H 3 a = some p → py H 3 b = some q → t = PyData.eqv p q → wpAny (model prog w) A (compareOp .Eq va vb) (PB t s) F0 s := by
  intro p q h1 h2 ht;refine el03 (py_reads W 3 a p va h1 xa) fun zq1 c1 d1 => ?_;refine el11 zq1 fun as ra => ?_;clear zq1;refine el03 (py_reads W 3 b q vb h2 xb) fun zq1 c2 d2 => ?_;refine el11 zq1 fun bs rb => ?_;clear zq1;subst ht;exact compareEq_reads ra rb c1 c2 (a0.room d1) PB.here
 unfold isEq at e
 split at e
 ·cases e;refine V.elim xa fun _ zq => ?_; clear xa; subst zq; refine V.elim xb fun _ zq => ?_; clear xb; subst zq;rename_i x t y u;exact PyProof.Rows.eq_str ⟨rfl, s.toks, rfl⟩
 ·revert e;refine odP fun p q h1 h2 e => ?_
  ·cases e;exact key h1 h2 rfl
set_option tactic.hygienic true in
theorem s_ne {n : Nat} {a b : D} {t : Bool} {va vb : Value} (a0 : AOk n A) (W : WR prog w B ρ H s.heap) (e : isEq H a b = some t) (xa : V B ρ s.heap va a) (xb : V B ρ s.heap vb b) :
  wpAny (model prog w) A (compareOp .NotEq va vb) (PB (!t) s) F0 s := by
 have key : ∀ {p q : PyData}, py H 3 a = some p → py H 3 b = some q → t = PyData.eqv p q → wpAny (model prog w) A (compareOp .NotEq va vb) (PB (!t) s) F0 s := by
  intro p q h1 h2 ht;refine el03 (py_reads W 3 a p va h1 xa) fun zq1 c1 d1 => ?_;refine el11 zq1 fun as ra => ?_;clear zq1;refine el03 (py_reads W 3 b q vb h2 xb) fun zq1 c2 d2 => ?_;refine el11 zq1 fun bs rb => ?_;clear zq1;subst ht;exact compareNe_reads ra rb c1 c2 (a0.room d1) PB.here
 unfold isEq at e
 split at e
 ·cases e;refine V.elim xa fun _ zq => ?_; clear xa; subst zq; refine V.elim xb fun _ zq => ?_; clear xb; subst zq;rename_i x t y u;exact PyProof.Rows.ne_str ⟨rfl, s.toks, rfl⟩
 ·revert e;refine odP fun p q h1 h2 e => ?_
  ·cases e;exact key h1 h2 rfl
theorem EL.lookup {h : Heap} {kvs : List (Str × Value)} {es : List (Str × D)} (x : EL B ρ h kvs es) (k : Str) : (es.lookup k = none ∧ valueAt kvs k = none) ∨ ∃ v d, es.lookup k = some d ∧ valueAt kvs k = some v ∧ V B ρ h v d := by
 induction x with
 | nil => exact .inl ⟨rfl, rfl⟩
 | @cons k' v d kvs es hk hv hr ih =>
  by_cases he : k = k'
  ·subst he;exact .inr ⟨v, d, by simp [List.lookup_cons], by simp [valueAt], hv⟩
  ·have h1 : (k == k') = false := by simpa using he
   have h2 : decide (k' = k) = false := by simpa using fun e => he e.symm
   have e1 : ((k', d) :: es).lookup k = es.lookup k := by simp [List.lookup_cons, h1]
   have e2 : valueAt ((k', v) :: kvs) k = valueAt kvs k := by simp [valueAt, List.find?_cons, h2]
   rw [e1, e2];exact ih
theorem EL.isSome {h : Heap} {kvs : List (Str × Value)} {es : List (Str × D)} (x : EL B ρ h kvs es) (k : Str) : (valueAt kvs k).isSome = (es.lookup k).isSome := by
 rcases x.lookup k with ⟨a, b⟩ | ⟨v, d, a, b, _⟩ <;> rw [a, b] <;> rfl
theorem EL.length {h : Heap} {kvs : List (Str × Value)} {es : List (Str × D)} (x : EL B ρ h kvs es) : kvs.length = es.length := by
 induction x with
 | nil => rfl
 | cons _ _ _ ih => simp [ih]
theorem WR.notSys (G : GOk prog w B ge K) {h : Heap} (W : WR prog w B ρ H h) {i : Nat} {a : Addr} (hr : ρ[i]? = some a) : (a == sysModules) = false := by
 have h1 := W.off a (List.mem_of_getElem? hr);have h2 := G.sys
 cases e : a == sysModules with
 | false => rfl
 | true => rw [← beq_iff_eq.mp e, h1] at h2; exact ff h2
set_option tactic.hygienic true in
theorem s_in {n : Nat} {a b : D} {t : Bool} {va vb : Value} (G : GOk prog w B ge K) (a0 : AOk n A) (W : WR prog w B ρ H s.heap) (e : isIn H a b = some t) (xa : V B ρ s.heap va a) (xb : V B ρ s.heap vb b) :
  wpAny (model prog w) A (compareOp .In va vb) (PB t s) F0 s ∧ wpAny (model prog w) A (compareOp .NotIn va vb) (PB (!t) s) F0 s := by
 have seq : ∀ {p : PyData} {qs : List PyData} {ds : List D} {vs : List Value}, py H 3 a = some p → omap (py H 3) ds = some qs → VL B ρ s.heap vs ds →
   (∃ as, Reads s.heap va p as) ∧ (∃ bs, ReadsAll s.heap vs qs bs) ∧ p.canLay0 = true ∧ PyData.canLayAll0 qs = true ∧ A.units + 1 + min (PyData.depthAll qs) p.depth < cLine := by
  intro p qs ds vs h1 h2 hv;refine el03 (py_reads W 3 a p va h1 xa) fun ra c1 d1 => ?_;refine el03 (omap_reads (py_reads W 3) ds qs vs h2 hv) fun rb c2 d2 => ?_;exact in05 ra rb c1 (canLayAll_of c2) (a0.room1 d1)
 unfold isIn at e
 split at e
 ·rename_i ds;revert e;refine odQ fun p qs h1 h2 e => ?_
  ·cases e;refine V.elim xb fun _ _ _ ho hv zq => ?_;clear xb;subst zq;refine el05 (seq h1 h2 hv) fun zq1 zq2 c1 c2 hu => ?_;refine el11 zq1 fun as ra => ?_;clear zq1;refine el11 zq2 fun bs rb => ?_;clear zq2;have rc := Reads.tuple ho rfl rfl rb;exact ⟨in_tuple_reads rc ra c2 c1 hu PB.here, notIn_tuple_reads rc ra c2 c1 hu PB.here⟩
 ·rename_i i;refine V.elim xb fun _ hi zq => ?_;clear xb;subst zq
  split at e
  ·rename_i ds hl;revert e;refine odQ fun p qs h1 h2 e => ?_
   ·cases e;refine el12 (W.obj _ _ _ hl hi) fun vs zq1 hv => ?_;refine el11 zq1 fun m ho => ?_;clear zq1;refine el05 (seq h1 h2 hv) fun zq1 zq2 c1 c2 hu => ?_;refine el11 zq1 fun as ra => ?_;clear zq1;refine el11 zq2 fun bs rb => ?_;clear zq2;have rc := Reads.list ho rfl rfl rb;exact ⟨in_list_reads rc ra c2 c1 hu PB.here, notIn_list_reads rc ra c2 c1 hu PB.here⟩
  ·rename_i es hl
   split at e
   rotate_left
   ·cases e
   rename_i k
   ·cases e;refine el12 (W.obj _ _ _ hl hi) fun kvs hd hE => ?_;refine V.elim xa fun u hx zq => ?_;clear xa;subst zq;have hs := hE.isSome k;refine ⟨wpAny_in_of (strKind_is prog w k u) (W.notSys G hi) hd.mapOf ?_, wpAny_notIn_of (strKind_is prog w k u) (W.notSys G hi) hd.mapOf ?_⟩
    all_goals (rw [hs]; first | exact ⟨rfl, _, rfl⟩)
  ·exact nn e
 ·exact nn e
end
end Mine
end

-- F
section
namespace Mine
section
variable {prog : Program} {w : World} {B : Heap} {ge : GE} {K : Frag} {ρ : List Addr} {H : AH} {env : Env} {nm : Nms} {loc : Loc} {s : Shared} {A : Around}
theorem PE.bool {t : Bool} {tk : Nat} (W : WR prog w B ρ H s.heap) : PE prog w B ρ s H (.bool t) (.bool t) { s with toks := tk } := PE.here W (.bool t)
theorem PE.int {i : Int} {u tk : Nat} (W : WR prog w B ρ H s.heap) : PE prog w B ρ s H (.int i) (.int i u) { s with toks := tk } := PE.here W (.int i u)
theorem isNone_V {h : Heap} {v : Value} {d : D} (x : V B ρ h v d) : (v == Value.none) = isNone d := by
 cases x with
 | bi b => cases b <;> rfl
 | _ => rfl
theorem isNone_V' {h : Heap} {v : Value} {d : D} (x : V B ρ h v d) (e : isNone d = true) : v = .none := by
 cases x <;> first | rfl | cases e
theorem twoI_of {a b : D} {x y : Int} (h : twoI a b = some (x, y)) : a = .int x ∧ b = .int y := by
 cases a with
 | int i => cases b with
  | int j => cases h; exact ⟨rfl, rfl⟩
  | _ => exact nn h
 | _ => exact nn h
theorem two_V {h : Heap} {a b : D} {x y : Int} {va vb : Value} (e : twoI a b = some (x, y)) (xa : V B ρ h va a) (xb : V B ρ h vb b) : ∃ u z, va = .int x u ∧ vb = .int y z := by
 refine el02 (twoI_of e) fun zr1 zr2 => ?_;subst zr1;subst zr2;refine V.elim xa fun O zq => ?_; clear xa; subst zq; refine V.elim xb fun O zq => ?_; clear xb; subst zq;exact in22 _ _ rfl rfl
theorem s_cmp {n : Nat} {op : CmpOp} {a b : D} {t : Bool} {va vb : Value} (G : GOk prog w B ge K) (a0 : AOk n A) (W : WR prog w B ρ H s.heap) (e : cmp H op a b = some t) (xa : V B ρ s.heap va a) (xb : V B ρ s.heap vb b) :
  wpAny (model prog w) A (compareOp op va vb) (PB t s) F0 s := by
 have two : ∀ {f : Int × Int → Bool}, (twoI a b).map f = some t → ∃ x y u z, va = .int x u ∧ vb = .int y z ∧ t = f (x, y) := by
  intro f e;refine el12 (Option.map_eq_some_iff.1 e) fun q e1 zr1 => ?_;subst zr1;refine el22 (two_V e1 xa xb) fun u z h1 h2 => ?_;exact in43 _ _ u z h1 h2 rfl
 cases op with
 | Is =>
  revert e;refine ifs fun hb e => ?_;cases e;rw [isNone_V' xb hb, ← isNone_V xa];exact is_none PB.here
 | IsNot =>
  revert e;refine ifs fun hb e => ?_;cases e;rw [isNone_V' xb hb, ← isNone_V xa];exact isNot_none PB.here
 | Lt =>
  refine el43 (two e) fun x y u z zr1 zr2 zr3 => ?_;subst zr1;subst zr2;subst zr3;exact PyProof.Rows.lt_int PB.here
 | LtE =>
  refine el43 (two e) fun x y u z zr1 zr2 zr3 => ?_;subst zr1;subst zr2;subst zr3;exact PyProof.Rows.le_int PB.here
 | Gt =>
  refine el43 (two e) fun x y u z zr1 zr2 zr3 => ?_;subst zr1;subst zr2;subst zr3;exact PyProof.Rows.gt_int PB.here
 | GtE =>
  refine el43 (two e) fun x y u z zr1 zr2 zr3 => ?_;subst zr1;subst zr2;subst zr3;exact PyProof.Rows.ge_int PB.here
 | Eq => exact s_eq a0 W e xa xb
 | NotEq =>
  refine el12 (Option.map_eq_some_iff.1 e) fun t' e1 zr1 => ?_;subst zr1;exact s_ne a0 W e1 xa xb
 | In => exact (s_in G a0 W e xa xb).1
 | NotIn =>
  refine el12 (Option.map_eq_some_iff.1 e) fun t' e1 zr1 => ?_;subst zr1;exact (s_in G a0 W e1 xa xb).2
theorem WR.newList (W : WR prog w B ρ H s.heap) {vs : Array Value} {ds : List D} {h' : Heap} {tk : Nat} {a : Addr} {m : Nat} (hn : s.heap.get? a = none) (hk : ∀ b o, s.heap.get? b = some o → h'.get? b = some o)
  (ha : h'.get? a = some { cls := .type "list", data := .seq vs m }) (x : VL B ρ s.heap vs.toList ds) : PE prog w B ρ s (H ++ [.list ds]) (.ref H.length) (.ref a) { s with heap := h', toks := tk } := by
 have im : Imm s.heap h' := fun b o e O => hk b o e;refine in13 (ρ ++ [a]) (Run.one hn hk) (W.alloc hn hk ⟨vs, ⟨m, ha⟩, x.mono im⟩) (.ref ?_);rw [← W.len]; simp
theorem fresh_size (h : Heap) : h.get? h.objs.size = none := by
 cases e : h.get? h.objs.size with
 | none => rfl
 | some o => exact absurd (Heap.lt_size e) (Nat.lt_irrefl _)
theorem WR.pushList (W : WR prog w B ρ H s.heap) {vs : Array Value} {ds : List D} {tk : Nat} (x : VL B ρ s.heap vs.toList ds) :
  PE prog w B ρ s (H ++ [.list ds]) (.ref H.length) (.ref s.heap.objs.size) { s with heap := s.heap.push { cls := .type "list", data := .seq vs }, toks := tk } :=
 W.newList (fresh_size _) (fun b o e => Heap.get?_push_of_some _ e) (Heap.get?_push_size _ rfl) x
theorem newL_eq {H' : AH} {ds : List D} {d : D} (e : newL H ds = some (d, H')) : ds.length ≤ maxLen ∧ d = .ref H.length ∧ H' = H ++ [.list ds] := by
 revert e; refine ifs fun h e => ?_; cases e; exact ⟨h, rfl, rfl⟩
theorem maxLen_le : maxLen ≤ sizeLine := by rw [sizeLine_eq]; decide
theorem small_bits {a : Int} (h : small a = true) : Builtin.Int.intBits a ≤ 64 := by
 unfold small at h;simp only [Bool.and_eq_true, decide_eq_true_eq] at h;exact intBits_le_64 (by omega) (by omega)
set_option tactic.hygienic true in
theorem s_binop {n : Nat} {op : Operator} {a b d : D} {H' : AH} {va vb : Value} (a0 : AOk n A) (W : WR prog w B ρ H s.heap) (e : binop H op a b = some (d, H')) (xa : V B ρ s.heap va a) (xb : V B ρ s.heap vb b) :
  wpAny (model prog w) A (binaryOp op va vb) (PE prog w B ρ s H' d) F0 s := by
 cases op with
 | Add =>
  cases xa with
  | int x u =>
   cases xb with
   | int y z => cases e; exact PyProof.Rows.add_int (PE.int W)
   | _ => exact nn e
  | ref hi =>
   rename_i ai
   cases xb with
   | ref hj =>
    rename_i aj;revert e;refine odL fun xs ys h1 h2 e => ?_;refine el03 (newL_eq e) fun hl zr1 zr2 => ?_;subst zr1;subst zr2;refine el12 (W.list h1 hi) fun vs zq1 hv => ?_;refine el11 zq1 fun n1 ho => ?_;clear zq1;refine el12 (W.list h2 hj) fun ws zq1 hw => ?_;refine el11 zq1 fun n2 ho2 => ?_;clear zq1
    have hsz : vs.size + ws.size ≤ sizeLine := by
     have e1 := hv.length;have e2 := hw.length;rw [List.length_append] at hl;have := maxLen_le;simp only [Array.length_toList] at e1 e2
     omega
    refine concat_meets ⟨_, ho, rfl⟩ ⟨_, ho2, rfl⟩ noFill_list_add seq_list_add PySem.F.slot_list_add PySem.F.entry_list_add (PySem.F.args_list_add_2 _ _) (list_addW ai aj vs ws n1 n2 none none #[] #[] hsz) ⟨ho, ho2, ?_⟩;exact W.pushList (tk := s.toks) (by simpa using hv.append hw)
   | _ => exact nn e
  | _ => exact nn e
 | Sub =>
  revert e;refine ocI fun x y h e => ?_;cases e;refine el22 (two_V h xa xb) fun u z zr1 zr2 => ?_;subst zr1;subst zr2;exact PyProof.Rows.sub_int' (PE.int W)
 | Mult =>
  revert e;refine ocI fun x y h e => ?_;revert e;refine ifs fun hs e => ?_;cases e;refine el22 (two_V h xa xb) fun u z zr1 zr2 => ?_;subst zr1;subst zr2;refine PyProof.Rows.mul_int (PE.int W) ?_;rcases Bool.or_eq_true_iff.mp hs with h | h
  ·exact IntMulOk.of_left (small_bits h)
  ·exact IntMulOk.of_right (small_bits h)
 | FloorDiv =>
  revert e;refine ocI fun x y h e => ?_;revert e;refine ifs fun hs e => ?_;cases e;refine el22 (two_V h xa xb) fun u z zr1 zr2 => ?_;subst zr1;subst zr2;simp only [Bool.and_eq_true, decide_eq_true_eq] at hs;exact PyProof.Rows.floordiv_int (by omega) (PE.int W) (Or.inl (PyProof.noPylong_small (by omega)))
 | Mod =>
  revert e;refine ocI fun x y h e => ?_;revert e;refine ifs fun hs e => ?_;cases e;refine el22 (two_V h xa xb) fun u z zr1 zr2 => ?_;subst zr1;subst zr2;exact PyProof.Rows.mod_int' (of_decide_eq_true hs) (PE.int W)
 | Pow =>
  revert e;refine ocI fun x y h e => ?_;revert e;refine ifs fun hs e => ?_;cases e;refine el22 (two_V h xa xb) fun u z zr1 zr2 => ?_;subst zr1;subst zr2;simp only [Bool.and_eq_true, decide_eq_true_eq, small] at hs;exact PyProof.Rows.pow_int_small (by exact ln1 67072561 67072561 [] [_] hs.1.2) (by exact ln1 170457600024321 106560021121 [] [_] hs.2) (by omega) (PE.int W)
 | _ => exact nn e
theorem s_unop {op : UnaryOp} {a d : D} {va : Value} (W : WR prog w B ρ H s.heap) (e : unop op a = some d) (xa : V B ρ s.heap va a) : wpAny (model prog w) A (unaryOp op va) (PE prog w B ρ s H d) F0 s := by
 unfold unop at e
 split at e
 ·cases e; refine V.elim xa fun zq => ?_; clear xa; subst zq; exact not_value (wpAny_truthy_bool (PE.bool (tk := s.toks) W))
 ·cases e; refine V.elim xa fun O zq => ?_; clear xa; subst zq; exact PyProof.Rows.neg_int (PE.int W)
 ·exact nn e
theorem s_truth {a : D} {t : Bool} {va : Value} {Q : Bool → Shared → Prop} {E : Value → Shared → Prop} (e : truth a = some t) (xa : V B ρ s.heap va a) (hq : Q t s) : wpAny (model prog w) A (truthy va) Q E s := by
 unfold truth at e
 split at e
 rotate_left
 ·cases e
 ·cases e; refine V.elim xa fun zq => ?_; clear xa; subst zq; exact wpAny_truthy_bool hq
end
end Mine
end

-- G
section
namespace Mine
section
variable {prog : Program} {w : World} {B : Heap} {ge : GE} {K : Frag} {ρ : List Addr} {H : AH} {env : Env} {nm : Nms} {loc : Loc} {s : Shared} {A : Around}
theorem dictAt_of {knd : KeyKind prog w Str} {h : Heap} {a : Addr} {kvs : List (Str × Value)} (x : h.DictOf knd a kvs) : ∃ ep, h.DictAt knd a kvs ep := by
 refine el31 x fun o es ep r => ?_;clear x;exact in31 ep o es r
theorem EL.keys {h : Heap} {kvs : List (Str × Value)} {es : List (Str × D)} (x : EL B ρ h kvs es) {acc : List Value}
  (hl : acc.length = kvs.length) (hk : ∀ (j : Nat) v, acc[j]? = some v → ∃ k x, kvs[j]? = some (k, x) ∧ ∃ t, v = .str k t) : VL B ρ h acc (es.map fun e => .str e.1) := by
 induction x generalizing acc with
 | nil => cases acc with | nil => exact .nil | cons _ _ => simp at hl
 | @cons k v d kvs es hk' hv hr ih =>
  cases acc with
  | nil => simp at hl
  | cons a acc =>
   refine el22 (hk 0 a rfl) fun k1 x1 e1 zq1 => ?_;refine el11 zq1 fun t zr2 => ?_;clear zq1;subst zr2;simp at e1;refine el02 e1 fun zr1 zr2 => ?_;clear e1;subst zr1;subst zr2;exact .cons (.str _ t hk') (ih (by simpa using hl) fun j v hj => by simpa using hk (j + 1) v (by simpa using hj))
theorem len64 {n : Nat} (h : n ≤ maxLen) : (n : Int) < 2 ^ 63 := by
 have : maxLen = 4096 := rfl
 omega
theorem s_len {n : Nat} {ds : List D} {H' : AH} {d : D} {vs : List Value} (W : WR prog w B ρ H s.heap) (e : bcall H .len ds = some (d, H')) (x : VL B ρ s.heap vs ds) :
  wpAny (model prog w) A (call (.builtin "len") vs) (PE prog w B ρ s H' d) F0 s := by
 cases x with | nil => cases e | cons x r =>
 cases r with | cons _ _ => cases e | nil =>
 cases x with
 | tup ho hv =>
  revert e;refine ifs fun hl e => ?_;cases e;have e1 := hv.length;simp only [Array.length_toList] at e1;have hI : IsTup s.heap _ _ := ⟨_, ho, rfl, _, rfl⟩;refine len_tuple hI (by rw [e1]; exact len64 hl) ?_;rw [e1];exact PE.int W
 | ref hi =>
  revert e;refine obL fun ds' hl e => ?_;revert e;refine ifs fun hz e => ?_;cases e;refine el12 (W.list hl hi) fun vs ho hv => ?_;have e1 := hv.length;simp only [Array.length_toList] at e1;refine call_len_list ho.isList (by rw [e1]; exact len64 hz) ?_;rw [e1];exact PE.int W
 | _ => exact nn e
theorem s_list {n : Nat} {ds : List D} {H' : AH} {d : D} {vs : List Value} (G : GOk prog w B ge K) (a0 : AOk n A) (W : WR prog w B ρ H s.heap) (e : bcall H .list ds = some (d, H')) (x : VL B ρ s.heap vs ds) :
  wpAny (model prog w) A (call (.type "list") vs) (PE prog w B ρ s H' d) F0 s := by
 cases x with | nil => cases e | cons x r =>
 cases r with | cons _ _ => cases e | nil =>
 have go : ∀ {T : String} {a : Addr} {o : Obj} {items : Array Value} {m : Nat} {ds : List D} (hT : T = "list" ∨ T = "tuple") (ho : s.heap.get? a = some o) (hc : o.cls = .type T) (hd : o.data = .seq items m) (hv : VL B ρ s.heap items.toList ds)
   (e : newL H ds = some (d, H')), wpAny (model prog w) A (call (.type "list") [.ref a]) (PE prog w B ρ s H' d) F0 s := by
  intro T a o items m ds hT ho hc hd hv e;refine el03 (newL_eq e) fun hl zr1 zr2 => ?_;subst zr1;subst zr2;refine call_list_seq a hT ho hc hd (fun h' c' hk hg => W.newList (tk := s.toks) (fresh_size _) hk hg hv) ?_;have e1 := hv.length;simp only [Array.length_toList] at e1;have := maxLen_le
  omega
 cases x with
 | tup ho hv => exact go (.inr rfl) ho rfl rfl hv e
 | @ref i _ hi =>
  revert e
  show (match H[i]? with
   | some (.list ds) => newL H ds
   | some (.dict es) => newL H (es.map fun e : Str × D => .str e.1)
   | _ => none) = _ → _
  intro e
  cases hl : H[i]? with
  | none => rw [hl] at e; exact nn e
  | some o => cases o with
   | list ds' =>
    rw [hl] at e;refine el12 (W.obj _ _ _ hl hi) fun vs zq1 hv => ?_;refine el11 zq1 fun m ho => ?_;clear zq1;exact go (.inl rfl) ho rfl rfl hv e
   | dict es =>
    rw [hl] at e;refine el12 (W.obj _ _ _ hl hi) fun kvs hd hE => ?_;refine el03 (newL_eq e) fun hz zr1 zr2 => ?_;subst zr1;subst zr2;refine el11 (dictAt_of hd) fun ep hA => ?_;refine kdl_call (kdl_dict (ep := ep) (kvs := kvs) (W.notSys G hi)) a0.hd hA (by rw [hE.length]; have := maxLen_le; simp at hz; omega) fun h' tk acc c' hk hg hacc => ?_;refine W.newList (fresh_size _) hk hg (hE.keys (by rw [← hacc.1]; simp) fun j v hj => ?_);refine el22 (hacc.2 j v (by simpa using hj)) fun k x e1 e2 => ?_;exact in22 k x e1 (Value.isStrOf_shape e2)
   | inst C j => rw [hl] at e; exact nn e
 | _ => exact nn e
theorem s_tuple {ds : List D} {H' : AH} {d : D} {vs : List Value} (W : WR prog w B ρ H s.heap) (e : bcall H .tuple ds = some (d, H')) (x : VL B ρ s.heap vs ds) :
  wpAny (model prog w) A (call (.type "tuple") vs) (PE prog w B ρ s H' d) F0 s := by
 cases x with | nil => cases e | cons x r =>
 cases r with | cons _ _ => cases e | nil =>
 cases x with
 | ref hi =>
  revert e;refine obL fun ds' hl e => ?_;revert e;refine ifs fun hz e => ?_;cases e;refine el12 (W.list hl hi) fun vs ho hv => ?_;have e1 := hv.length;simp only [Array.length_toList] at e1;refine call_tuple_list ho.isList (fun h' hk => ?_) (by have := maxLen_le; omega);have hk2 : ∀ b o, s.heap.get? b = some o → (h'.push { cls := .type "tuple", data := .seq vs }).get? b = some o := fun b o e => Heap.get?_push_of_some _ (hk b o e);exact in13 (ρ) (Run.keep (tk := s.toks) hk2) (W.keep hk2) (.tup (Heap.get?_push_size _ rfl) (hv.mono0 fun b o e O => hk2 b o e))
 | _ => exact nn e
set_option tactic.hygienic true in
theorem s_repr {n : Nat} {ds : List D} {H' : AH} {d : D} {vs : List Value} (a0 : AOk n A) (W : WR prog w B ρ H s.heap) (e : bcall H .repr ds = some (d, H')) (x : VL B ρ s.heap vs ds) :
  wpAny (model prog w) A (call (.builtin "repr") vs) (PE prog w B ρ s H' d) F0 s := by
 cases x with | nil => cases e | cons x r =>
 cases r with | cons _ _ => cases e | nil =>
 rename_i v _;revert e;refine obP fun p hp e => ?_
 ·revert e;refine ifs fun hs e => ?_
  ·cases e;refine el03 (py_reads W 3 _ p v hp x) fun zq1 hc hd => ?_;refine el11 zq1 fun as rd => ?_;clear zq1;simp only [showOk, Bool.and_eq_true, decide_eq_true_eq, Bool.not_eq_true'] at hs;refine el02 hs fun zq1 h4 => ?_;clear hs;refine el02 zq1 fun zq2 h3 => ?_;clear zq1;refine el02 zq2 fun h1 h2 => ?_;clear zq2;have hz := PyData.shown_fits_bulk (B := 13) (by decide) (by decide) h2 h3
   have atom : ∀ t, PE prog w B ρ s H (.txt p.shown) (.str p.shown t) { s with toks := s.toks + 1 } := fun t => PE.here W (.txt _ t)
   cases rd with
   | none => exact P.repr_of_none (by simpa [PyData.shown] using atom _)
   | bool b => exact P.repr_of_bool (by have := atom s.toks; cases b <;> simpa [PyData.shown] using this)
   | int i t => exact P.repr_of_int (by simpa [PyData.showable] using h1) (by simpa [PyData.shown] using atom _)
   | str y t => exact P.repr_of_str (by simpa [PyData.shown] using atom _) (by simpa [PyData.shown] using hz)
   | list ha hb hc' hd' => exact repr_of_reads' (.list ha hb hc' hd') h1 (fun e => by rw [h4] at e; cases e) a0.gd (by have := a0.un; rw [cLine_is]; exact ln2 9711782037097857601 56534441 9705883797509782401 [_,_,_] [] hd this) (fun _ _ e => e) (fun h' u tk hk => ⟨ρ, Run.keep hk, W.keep hk, .txt _ u⟩) hz
   | tuple ha hb hc' hd' => exact repr_of_reads' (.tuple ha hb hc' hd') h1 (fun e => by rw [h4] at e; cases e) a0.gd (by have := a0.un; rw [cLine_is]; exact ln2 9711782037097857601 56534441 9705883797509782401 [_,_,_] [] hd this) (fun _ _ e => e) (fun h' u tk hk => ⟨ρ, Run.keep hk, W.keep hk, .txt _ u⟩) hz
   | dict ha hb hc' hd' he' => exact repr_of_reads' (.dict ha hb hc' hd' he') h1 (fun e => by rw [h4] at e; cases e) a0.gd (by have := a0.un; rw [cLine_is]; exact ln2 9711782037097857601 56534441 9705883797509782401 [_,_,_] [] hd this) (fun _ _ e => e) (fun h' u tk hk => ⟨ρ, Run.keep hk, W.keep hk, .txt _ u⟩) hz
theorem s_range {ds : List D} {H' : AH} {d : D} {vs : List Value} (W : WR prog w B ρ H s.heap) (e : bcall H .range ds = some (d, H')) (x : VL B ρ s.heap vs ds) :
  wpAny (model prog w) A (call (.type "range") vs) (PE prog w B ρ s H' d) F0 s := by
 have made : ∀ {lo hi : Int} {t u v tk : Nat}, PE prog w B ρ s H (.rng lo hi) (.ref s.heap.objs.size) { s with heap := s.heap.push { cls := .type "range", data := .fields #[.int lo t, .int hi u, .int 1 v] }, toks := tk } := by
  intro lo hi t u v tk;have hk : ∀ b o, s.heap.get? b = some o → (s.heap.push { cls := .type "range", data := .fields #[.int lo t, .int hi u, .int 1 v] }).get? b = some o := fun b o e => Heap.get?_push_of_some _ e;exact in13 (ρ) (Run.keep hk) (W.keep hk) (.rng (IsRange.new _ _ _ _ _ _ _))
 cases x with | nil => cases e | cons x r =>
 cases r with
 | nil =>
  cases x with
  | int b t =>
   revert e;refine ifs fun hz e => ?_;cases e;exact call_range_1 made
  | _ => exact nn e
 | cons y r =>
  cases r with | cons _ _ => cases e | nil =>
  revert e;refine ocI fun a b h e => ?_;revert e;refine ifs fun hz e => ?_;cases e;refine el02 (twoI_of h) fun zr1 zr2 => ?_;subst zr1;subst zr2;refine V.elim x fun O zq => ?_; clear x; subst zq; refine V.elim y fun O zq => ?_; clear y; subst zq;exact call_range_2 made
theorem s_min {n : Nat} {ds : List D} {H' : AH} {d : D} {vs : List Value} (a0 : AOk n A) (W : WR prog w B ρ H s.heap) (e : bcall H .min ds = some (d, H')) (x : VL B ρ s.heap vs ds) :
  wpAny (model prog w) A (call (.builtin "min") vs) (PE prog w B ρ s H' d) F0 s := by
 cases x with | nil => cases e | cons x r =>
 cases r with | nil => cases e | cons y r =>
 cases r with | cons _ _ => cases e | nil =>
 revert e;refine ocI fun a b h e => ?_;cases e;refine el02 (twoI_of h) fun zr1 zr2 => ?_;subst zr1;subst zr2;refine V.elim x fun t zq => ?_;clear x;subst zq;refine V.elim y fun u zq => ?_;clear y;subst zq;refine min_two_ints a0.hd fun h' tk hk => ⟨ρ, Run.keep hk, W.keep hk, ?_⟩;simp only [Int.min_def]
 split <;> split <;> first | exact .int _ _ | (exfalso; omega)
theorem s_isinstance {ds : List D} {H' : AH} {d : D} {vs : List Value} (W : WR prog w B ρ H s.heap) (e : bcall H .isinstance ds = some (d, H')) (x : VL B ρ s.heap vs ds) :
  wpAny (model prog w) A (call (.builtin "isinstance") vs) (PE prog w B ρ s H' d) F0 s := by
 cases x with | nil => cases e | cons x r =>
 cases r with | nil => cases e | cons y r =>
 cases r with | cons _ _ => cases e | nil =>
 revert e;refine ifs fun hb e => ?_
 cases y with
 | bi b =>
  cases of_decide_eq_true hb
  cases x with
  | none => cases e; exact IsiPair.NoneType_bool (PE.bool W)
  | int _ _ => cases e; exact IsiPair.int_bool (PE.bool W)
  | str _ _ _ => cases e; exact IsiPair.str_bool (PE.bool W)
  | bool _ => cases e; exact IsiPair.bool_bool (PE.bool (tk := s.toks) W)
  | tup ho hv => cases e; exact IsiPair.tuple_bool ho rfl (PE.bool W)
  | _ => exact nn e
 | _ => exact ff hb
end
end Mine
end

-- H
section
namespace Mine
noncomputable def SEx (prog : Program) (w : World) (B : Heap) (p : Ev) (n : Nat) : Prop :=
 ∀ nm loc e H d H', p.ex nm loc e H = some (d, H') → ∀ A s ρ env, AOk n A → WR prog w B ρ H s.heap → FR B ρ s.heap env nm loc → wpAny (model prog w) A (eval e env) (PE prog w B ρ s H' d) F0 s
noncomputable def PT (prog : Program) (w : World) (B : Heap) (ρ : List Addr) (s : Shared) (H' : AH) (t : Bool) (b : Bool) (s' : Shared) : Prop :=
 b = t ∧ ∃ ρ', Run ρ (fun _ => False) s ρ' s' ∧ WR prog w B ρ' H' s'.heap
noncomputable def STr (prog : Program) (w : World) (B : Heap) (p : Ev) (n : Nat) : Prop :=
 ∀ nm loc e H t H', p.tr nm loc e H = some (t, H') → ∀ A s ρ env, AOk n A → WR prog w B ρ H s.heap → FR B ρ s.heap env nm loc → wpAny (model prog w) A (isTrue e env (eval e env)) (PT prog w B ρ s H' t) F0 s
inductive FlR (B : Heap) (ρ : List Addr) (h : Heap) : Flow → Flw → Prop
 | next : FlR B ρ h .next .next
 | ret {v : Value} {d : D} (x : V B ρ h v d) : FlR B ρ h (.ret v) (.ret d)
noncomputable def PS (prog : Program) (w : World) (B : Heap) (ρ : List Addr) (s : Shared) (env : Env) (nm : Nms) (fl : Flw) (loc' : Loc) (H' : AH) (f : Flow) (s' : Shared) : Prop :=
 ∃ ρ', Run ρ (Own env nm) s ρ' s' ∧ WR prog w B ρ' H' s'.heap ∧ FR B ρ' s'.heap env nm loc' ∧ FlR B ρ' s'.heap f fl
noncomputable def SSt (prog : Program) (w : World) (B : Heap) (p : Ev) (n : Nat) : Prop :=
 ∀ nm st loc H fl loc' H', p.st nm st loc H = some (fl, loc', H') → ∀ A s ρ env, AOk n A → WR prog w B ρ H s.heap → FR B ρ s.heap env nm loc → wpAny (model prog w) A (exec st env) (PS prog w B ρ s env nm fl loc' H') F0 s
noncomputable def SCl (prog : Program) (w : World) (B : Heap) (p : Ev) (n : Nat) : Prop :=
 ∀ f args H d H', p.cl f args H = some (d, H') → ∀ A s ρ v vs, AOk n A → WR prog w B ρ H s.heap → V B ρ s.heap v f → VL B ρ s.heap vs args → wpAny (model prog w) A (call v vs) (PE prog w B ρ s H' d) F0 s
noncomputable def SFn (prog : Program) (w : World) (B : Heap) (p : Ev) (n : Nat) : Prop :=
 ∀ a args H d H', p.cl (.fn a) args H = some (d, H') → ∀ A s ρ vs, AOk n A → WR prog w B ρ H s.heap → VL B ρ s.heap vs args → codeAny (model prog w) A (.call (.ref a) ⟨vs, []⟩) (wants (PE prog w B ρ s H' d) F0) s
structure Snd (prog : Program) (w : World) (B : Heap) (p : Ev) (n : Nat) : Prop where
 ex : SEx prog w B p n
 tr : STr prog w B p n
 st : SSt prog w B p n
 cl : SCl prog w B p n
 fn : SFn prog w B p n
noncomputable def PL (prog : Program) (w : World) (B : Heap) (ρ : List Addr) (s : Shared) (H' : AH) (ds : List D) (vs : List Value) (s' : Shared) : Prop :=
 ∃ ρ', Run ρ (fun _ => False) s ρ' s' ∧ WR prog w B ρ' H' s'.heap ∧ VL B ρ' s'.heap vs ds
section
variable {prog : Program} {w : World} {B : Heap} {ge : GE} {K : Frag} {ρ : List Addr} {H : AH} {env : Env} {nm : Nms} {loc : Loc} {s : Shared} {A : Around} {p : Ev} {n : Nat}
theorem AOk.mono {m : Nat} (a : AOk n A) (h : m ≤ n) : AOk m A := ⟨a.hd, a.gd, by have := a.dp; exact ln2 9653389461506710401 1411242 9653389461509270401 [_,_,_] [] h this, by have := a.un; exact ln2 9705883797507222401 1411250 9705883797509782401 [_,_,_] [] h this⟩
theorem AOk.in1 (a : AOk (n + 1) A) : AOk n A.in1 := ⟨a.hd, a.gd, by have := a.dp; show A.depth + 2 * n < 990; omega, by have := a.un; show A.units + 1 + 10 * n < 9000; omega⟩
theorem star_cons {e : Expr} {r : List Expr} (h : notStar e = true) : starEach (e :: r) env = (false, eval e env) :: starEach r env := by
 cases e <;> first | rfl | cases h
theorem star_all : ∀ {es : List Expr}, es.all notStar = true → ((starEach es env).any (·.1)) = false
 | [], _ => rfl
 | e :: r, h => by
  simp only [List.all_cons, Bool.and_eq_true] at h;rw [star_cons h.1, List.any_cons, star_all h.2]; rfl
theorem back_any {pos : Pos} {l : List (Bool × Sem Value)} : (backTo pos l).any (·.1) = l.any (·.1) := by
 unfold backTo;rw [List.any_map]
 rfl
theorem base_eq {o : Expr} {attr : Str} {whole : Sem Value} (h : isSuper o = false) : attributeBase o attr env whole = whole := by
 cases o with
 | Call f as ks q => cases f with
  | Name => cases as with
   | nil => cases ks with
    | nil => cases h
    | cons => rfl
   | cons => rfl
  | _ => rfl
 | _ => rfl
theorem PE.use {Q : Value → Shared → Prop} {E : Value → Shared → Prop} {H' : AH} {d : D} {t : Sem Value} (h : wpAny (model prog w) A t (PE prog w B ρ s H' d) F0 s)
  (k : ∀ v ρ₁ s₁, Run ρ (fun _ => False) s ρ₁ s₁ → WR prog w B ρ₁ H' s₁.heap → V B ρ₁ s₁.heap v d → Q v s₁) : wpAny (model prog w) A t Q E s :=
 any0 h fun v s₁ ⟨ρ₁, a, b, c⟩ => k v ρ₁ s₁ a b c
theorem s_args {pos : Pos} (S : SEx prog w B p n) (a0 : AOk n A) : ∀ {es : List Expr} {H : AH} {ds : List D} {H' : AH} {s : Shared} {ρ : List Addr}, es.all notStar = true → evs (p.ex nm loc) es H = some (ds, H') → WR prog w B ρ H s.heap → FR B ρ s.heap env nm loc →
  wpAny (model prog w) A (spliced (backTo pos (starEach es env))) (PL prog w B ρ s H' ds) F0 s
 | [], H, ds, H', s, ρ, _, e, W, F => by
  revert ds H';refine sm2 ?_;exact wpAny_items_nil ⟨ρ, Run.refl .., W, .nil⟩
 | x :: r, H, ds, H', s, ρ, hs, e, W, F => by
  simp only [List.all_cons, Bool.and_eq_true] at hs;revert e;refine ocD fun d H1 h1 e => ?_
  ·revert e;refine ocL fun ds' H2 h2 e => ?_
   ·revert ds H';refine sm2 ?_;refine wpAny_items_cons (PE.use (S _ _ _ _ _ _ h1 A s ρ env a0 W F) fun v ρ₁ s₁ R₁ W₁ V₁ => ?_) (star_cons hs.1);refine any0 (s_args S a0 hs.2 h2 W₁ (F.run W R₁)) fun vs s₂ h => ?_;refine el13 h fun ρ₂ R₂ W₂ V₂ => ?_;clear h;exact in13 (ρ₂) (R₁.trans R₂) W₂ (.cons (R₂.V W₁ V₁) V₂)
noncomputable def Keeps (M : Model) (f : Value) (h : Heap) : Prop := ∃ k, (k = Keeper.frame ∨ k = Keeper.machine ∨ k = Keeper.boundFrame) ∧ Looks M h (keeperOf f) k
theorem keeps_fn {h : Heap} {f : FnOk prog w B a fi} (hb : ∀ b o, B.get? b = some o → h.get? b = some o) : Keeps (model prog w) (.ref a) h := by
 refine el23 (f.ex) fun o fd ho hd O => ?_;refine in12 .frame (.inl rfl) ((Looks.ld (part := none) (hb _ _ ho)).andThen ?_);simp only [hd];exact .now
theorem keeps_bi (b : Bi) (h : Heap) : Keeps (model prog w) b.val h := by
 refine in12 .machine (.inr (.inl rfl)) ?_
 cases b <;> exact Looks.of_pure rfl
theorem s_callWith {pos : Pos} {f : Value} {first : List Value} {es : List Expr} {Q : Value → Shared → Prop} {E : Value → Shared → Prop} {H' : AH} {ds : List D} (S : SEx prog w B p n) (a0 : AOk n A) (hs : es.all notStar = true)
  (e : evs (p.ex nm loc) es H = some (ds, H')) (W : WR prog w B ρ H s.heap) (F : FR B ρ s.heap env nm loc)
  (k : ∀ vs ρ₁ s₁, Run ρ (fun _ => False) s ρ₁ s₁ → WR prog w B ρ₁ H' s₁.heap → VL B ρ₁ s₁.heap vs ds → Keeps (model prog w) f s₁.heap ∧ wpAny (model prog w) A (call f (first ++ vs)) Q E s₁) :
  wpAny (model prog w) A (callWith pos f first (backTo pos (starEach es env)) []) Q E s := by
 refine callWith_of (P := Keeps (model prog w) f) ?_ (fun h x => x) ?_
 ·rw [back_any, star_all hs]; rfl
 ·cases es with
  | nil =>
   cases e;refine el02 (k [] ρ s (Run.refl ..) W .nil) fun k1 k2 => ?_;exact evalArgs_nil3 ⟨k1, k2⟩
  | cons x r =>
   have hs' := hs;simp only [List.all_cons, Bool.and_eq_true] at hs';have sp := s_args (pos := pos) S a0 hs e W F;rw [star_cons hs'.1] at sp ⊢;refine evalArgs_plain (any0 sp fun vs s₁ h => ?_);refine el13 h fun ρ₁ R₁ W₁ V₁ => ?_;clear h;exact k vs ρ₁ s₁ R₁ W₁ V₁
end
end Mine
end

-- I
section
namespace Mine
section
variable {prog : Program} {w : World} {B : Heap} {ge : GE} {K : Frag} {ρ : List Addr} {H : AH} {env : Env} {nm : Nms} {loc : Loc} {s : Shared} {A : Around} {p : Ev} {n : Nat}
theorem seqIndex_pos {k : Int} {m : Nat} (h0 : 0 ≤ k) (h1 : k < m) : seqIndex? k m = some k.toNat := by
 unfold seqIndex?
 have : ¬ k < 0 := by exact fun hq => ln2 1200 69142721 67072561 [] [_] hq h0
 simp only [this, if_false];rw [if_pos (by simp only [Bool.and_eq_true, decide_eq_true_eq]; exact ⟨ln1 67072561 67072561 [] [_] h0, ln1 70336321 70336321 [_] [_] h1⟩)]
theorem seqIndex_range {k : Int} {m j : Nat} (h : seqIndex? k m = some j) : -(m : Int) ≤ k ∧ k < m := by
 unfold seqIndex? at h
 by_cases h0 : k < 0
 ·simp only [h0, if_true] at h
  by_cases h1 : (decide (0 ≤ k + (m : Int)) && decide (k + (m : Int) < m)) = true
  ·simp only [Bool.and_eq_true, decide_eq_true_eq] at h1; exact ⟨ln1 2684062401 4327322112561 [_] [_] h1.1, ln1 70336321 4501546176321 [_] [_] h1.2⟩
  ·rw [if_neg h1] at h; exact nn h
 ·simp only [h0, if_false] at h
  by_cases h1 : (decide (0 ≤ k) && decide (k < (m : Int))) = true
  ·simp only [Bool.and_eq_true, decide_eq_true_eq] at h1; exact ⟨ln1 2684062401 67072561 [_] [_] (Int.not_lt.1 h0), ln1 70336321 70336321 [_] [_] h1.2⟩
  ·rw [if_neg h1] at h; exact nn h
set_option tactic.hygienic true in
theorem nth_spec {ds : List D} {k : Int} {d : D} (e : nth ds k = some d) : (0 ≤ k ∧ k < ds.length ∧ ds[k.toNat]? = some d) ∨ (k < 0 ∧ -(ds.length : Int) ≤ k ∧ ds[(k + ds.length).toNat]? = some d) := by
 unfold nth at e
 split at e
 ·rename_i h;have := (List.getElem?_eq_some_iff.mp e).1;exact .inl ⟨h, by exact ln2 70336321 74782441 1472041 [_,_] [_] (Int.toNat_of_nonneg (ln1 67072561 67072561 [] [_] h)) this, e⟩
 ·rename_i h;revert e;refine ifs fun h2 e => ?_
  ·exact .inr ⟨by exact ln1 69142721 69142721 [] [_] (Int.lt_of_not_ge h), by exact ln1 2684062401 4327322112561 [_] [_] h2, e⟩
theorem tail_of {value slice : Expr} {o i : Value} {T id : String} {H' : AH} {d : D} (hs : isSlice slice = false) (hT : s.TypeIs o T) (hl : typeLookup (.type T) "__getitem__" = pure (some (.builtin id)))
  (hg : wpAny (model prog w) A (getItem o i) (PE prog w B ρ s H' d) F0 s) : wpAny (model prog w) A (subscriptTail value slice o i) (PE prog w B ρ s H' d) F0 s := by
 refine tail_any (ops := [o, i]) hT hl hg ?_
 cases slice with
 | Slice => cases hs
 | _ => rfl
set_option tactic.hygienic true in
theorem s_getIt {value slice : Expr} {a k d : D} {va vk : Value} (G : GOk prog w B ge K) (hs : isSlice slice = false) (W : WR prog w B ρ H s.heap) (e : getIt H a k = some d) (xa : V B ρ s.heap va a) (xk : V B ρ s.heap vk k) :
  wpAny (model prog w) A (subscriptTail value slice va vk) (PE prog w B ρ s H d) F0 s := by
 have lst : ∀ {ad : Addr} {us : Array Value} {ds : List D} {i : Int} {t : Tok}, s.heap.IsList ad us → VL B ρ s.heap us.toList ds → ds.length ≤ maxLen → nth ds i = some d → wpAny (model prog w) A (subscriptTail value slice (.ref ad) (.int i t)) (PE prog w B ρ s H d) F0 s := by
  intro ad us ds i t hI hv hz e;have e1 := hv.length;simp only [Array.length_toList] at e1;have h64 := len64 hz;refine tail_of hs hI.typeIs PySem.slot_list_getitem.lookup ?_;rcases nth_spec e with ⟨h0, h1, h2⟩ | ⟨h0, h1, h2⟩
  ·refine el12 (hv.get h2) fun v e2 x => ?_;exact wpAny_getItem_list hI h0 (by exact ln2 1742721 69726401 70336321 [_] [_,_] h64 h1) (by simpa using e2) (PE.here (tk := s.toks) W x)
  ·refine el12 (hv.get h2) fun v e2 x => ?_;exact wpAny_getItem_list_neg hI h0 (by exact ln2 2684062401 1601601 2684062441 [_,_] [_] e1 h1) (by exact ln2 67165121 69662401 2686622401 [_] [_,_] h64 h1) (by rw [e1]; simpa using e2) (PE.here (tk := s.toks) W x)
 cases xa with
 | tup ho hv =>
  rename_i ad vs m ds
  cases xk with
  | int i t =>
   revert e;refine ifs fun hz e => ?_;have e1 := hv.length;simp only [Array.length_toList] at e1;have hI : IsTup s.heap ad vs := ⟨_, ho, rfl, _, rfl⟩;have h64 := len64 hz;refine tail_of hs hI.typeIs F.slot_tuple_getitem.lookup ?_;rcases nth_spec e with ⟨h0, h1, h2⟩ | ⟨h0, h1, h2⟩
   ·refine el12 (hv.get h2) fun v e2 x => ?_;exact getItem_tuple hI (by omega) (by exact ln2 1742721 69726401 70336321 [_] [_,_] h64 h1) (seqIndex_pos h0 (by exact ln2 70336321 1601601 70337921 [_,_] [_] e1 h1)) (by simpa using e2) (PE.here (tk := s.toks) W x)
   ·refine el12 (hv.get h2) fun v e2 x => ?_;exact getItem_tuple hI (by exact ln2 67165121 69662401 2686622401 [_] [_,_] h64 h1) (by omega) (seqIndex_neg h0 (by exact ln2 2684062401 1601601 2684062441 [_,_] [_] e1 h1)) (by rw [e1]; simpa using e2) (PE.here (tk := s.toks) W x)
  | _ => exact nn e
 | fl ho hv =>
  cases xk with
  | int i t => exact ifs (fun hz e => lst ⟨_, W.base _ _ ho, rfl, _, rfl⟩ hv hz e) e
  | _ => exact nn e
 | ref hi =>
  cases xk with
  | int i t =>
   revert e;refine obL fun ds hl e => ?_;revert e;refine ifs fun hz e => ?_;refine el12 (W.list hl hi) fun vs ho hv => ?_;exact lst ho.isList hv hz e
  | str y t hy =>
   revert e;refine obE fun es hl e => ?_;refine el12 (W.dict hl hi) fun kvs hd hE => ?_;rcases hE.lookup y with ⟨h1, h2⟩ | ⟨v, d', h1, h2, x⟩
   ·rw [h1] at e; exact nn e
   ·rw [h1] at e; cases e;refine tail_of hs hd.typeIs F.slot_dict_getitem.lookup ?_;exact wpAny_getItem_of (strKind_is prog w y t) hd.mapOf h2 (PE.here W x)
  | _ => exact nn e
 | _ => exact nn e
theorem plain_setItem {l : Addr} {items : Array Value} {k : Int} {t : Tok} {v : Value} {j : Nat} {Q : Unit → Shared → Prop} {E : Value → Shared → Prop} (hl : s.heap.PlainList l items) (hfit : -(2 ^ 63) ≤ k) (hfit2 : k < 2 ^ 63)
  (hj : seqIndex? k items.size = some j) (hlt : j < items.size)
  (hQ : ∀ h', h'.PlainList l (items.setIfInBounds j v) → Heap.SameBut l s.heap h' → Q () { s with heap := h' }) :
  wpAny (model prog w) A (setItem (.ref l) (.int k t) v) Q E s := by
 refine el11 hl fun ne ho => ?_;clear hl;have hI : s.heap.IsList l items := ⟨_, ho, rfl, ne, rfl⟩;unfold setItem
 try with_reducible refine wpAny_holding ?_
 first | refine wpAny_bind (wpAny_pure ?_) | skip
 refine wpAny_bind (wpAny_sequenceKey hI.typeIs (by decide) ?_)
 refine wpAny_bind (wpAny_callSpecial?_slot (name := Str.ofString "__setitem__") hI.typeIs slot_list_setitem
  (wpAny_call_entry slot_list_setitem hI.typeIs entry_list_setitem ?_ (args_list_setitem _ _ _)))
 have hf : Builtin.List.listFitsIndex k = true := by
  unfold Builtin.List.listFitsIndex;simp only [Bool.and_eq_true, decide_eq_true_eq];exact ⟨ln1 67165121 67165121 [] [_,_] hfit, ln1 1742721 1742721 [] [_,_] hfit2⟩
 have hx' : items[j]? = some items[j] := Array.getElem?_eq_getElem hlt
 show wpAny _ _ (Builtin.List.listSubscript? (.int k t) >>= _) _ _ s
 refine wpAny_bind (wpAny_listSubscript_int hf ?_)
 have hfin : (s.heap.update l (Obj.mapSeq (·.setIfInBounds j v))).PlainList l (items.setIfInBounds j v) := by
  refine ⟨ne, ?_⟩;rw [Heap.get?_update_self _ ho (by simp [Obj.mapSeq, Obj.isFreed])];simp [Obj.mapSeq]
 have fin : ∀ {R : Fin → Shared → Prop} {E' : Value → Shared → Prop}, (∀ h', h'.PlainList l (items.setIfInBounds j v) → Heap.SameBut l s.heap h' → R (.done (.ret .none)) { s with heap := h' }) → wpAny (model prog w) A.in1 (setSeqItemAt l j v >>= fun O => ret .none) R E' s := by
  intro R E' hR;exact wpAny_bind (wpAny_setSeqItemAt ho rfl (wpAny_pure (hR _ hfin (Heap.SameBut.update ..))))
 have hQ' : ∀ h', h'.PlainList l (items.setIfInBounds j v) → Heap.SameBut l s.heap h' → ∃ v_1, (Fin.done (Flow.ret Value.none)) = Fin.done (.ret v_1) ∧ wpAny (model prog w) A (pure ()) Q E { s with heap := h' } := fun h' a b => ⟨.none, rfl, wpAny_pure (hQ h' a b)⟩
 cases k with
 | ofNat m =>
  have hjm : j = m := by
   unfold seqIndex? at hj;simp only [Int.ofNat_eq_natCast] at hj
   have : ¬ ((m : Int) < 0) := by exact fun hq => ln1 1200 2765726401 [_] [] hq
   simp only [this, if_false] at hj;revert hj;refine ifs fun O hj => ?_
   ·cases hj; exact Nat.le_antisymm (ln1 1409601 2915934401 [_,_] [] (Int.toNat_of_nonneg (ln0 2711040561 [_] []))) (ln1 1409601 3018270441 [_,_] [] (Int.toNat_of_nonneg (ln0 2711040561 [_] [])))
  subst hjm
  show wpAny _ _ ((seqItemAt l j >>= fun r => pure (r.map (j, ·))) >>= _) _ _ s
  refine wpAny_bind (wpAny_bind (wpAny_seqItemAt ho rfl (wpAny_pure ?_)));rw [hx']
  show wpAny _ _ (setSeqItemAt l j v >>= _) _ _ s
  refine wpAny_bind (wpAny_setSeqItemAt ho rfl ?_)
  first
   | exact wpAny_bind (wpAny_pure (wpAny_pure ⟨.none, rfl, wpAny_pure (hQ _ hfin (Heap.SameBut.update ..))⟩))
   | exact wpAny_pure ⟨.none, rfl, wpAny_pure (hQ _ hfin (Heap.SameBut.update ..))⟩
 | negSucc m =>
  show wpAny _ _ ((Builtin.List.listItems (.ref l) >>= fun xs => pure ((seqIndex? (Int.negSucc m) xs.size).bind fun i => xs[i]?.map (i, ·))) >>= _) _ _ s
  refine wpAny_bind (wpAny_bind ?_)
  show wpAny _ _ (seqItems? (.ref l) >>= _) _ _ s
  refine wpAny_bind (wpAny_seqItems ho rfl (wpAny_pure (wpAny_pure ?_)));rw [hj];simp only [Option.bind_some, hx', Option.map_some];refine wpAny_bind (wpAny_setSeqItemAt ho rfl ?_)
  first
   | exact wpAny_bind (wpAny_pure (wpAny_pure ⟨.none, rfl, wpAny_pure (hQ _ hfin (Heap.SameBut.update ..))⟩))
   | exact wpAny_pure ⟨.none, rfl, wpAny_pure (hQ _ hfin (Heap.SameBut.update ..))⟩
set_option tactic.hygienic true in
theorem EL.putE {h : Heap} {kvs : List (Str × Value)} {es : List (Str × D)} {k : Str} {v : Value} {d : D} (x : EL B ρ h kvs es) (hnd : (kvs.map (·.1)).Nodup) (hk : PyData.strOk k = true) (y : V B ρ h v d) : EL B ρ h (PySem.stored kvs k v) (Mine.putE es k d) := by
 induction x with
 | nil => exact .cons hk y .nil
 | @cons k' v' d' kvs es hk' hv' hr ih =>
  have hnd' := List.nodup_cons.mp (show (k' :: kvs.map (·.1)).Nodup from hnd);unfold PySem.stored Mine.putE
  by_cases he : k' = k
  ·subst he;simp only [List.any_cons, decide_true, Bool.true_or, if_true, List.map_cons, beq_self_eq_true];refine .cons hk' y ?_
   have e0 : (kvs.map fun kv => if kv.1 = k' then (kv.1, v) else kv) = kvs := map_store_of_not_mem kvs k' v hnd'.1
   rw [e0]; exact hr
  ·have hb : (k' == k) = false := by simpa using he
   have hd : decide (k' = k) = false := by simpa using he
   simp only [List.any_cons, hd, Bool.false_or, List.map_cons, he, if_false, hb, Bool.false_eq_true];have ih' := ih hnd'.2;unfold PySem.stored at ih';simp only [decide_false, Bool.false_or]
   split
   ·rename_i h1;rw [if_pos h1] at ih';exact .cons hk' hv' ih'
   ·rename_i h1;rw [if_neg h1] at ih';exact .cons hk' hv' ih'
theorem DictOf.nd {h : Heap} {a : Addr} {kvs : List (Str × Value)} (x : h.DictOf (strKind prog w) a kvs) : (kvs.map (·.1)).Nodup := let ⟨_, _, _, _, _, _, _, _, e⟩ := x; e
theorem DictOf.live {h : Heap} {a : Addr} {kvs : List (Str × Value)} (x : h.DictOf (strKind prog w) a kvs) : ∃ o, h.get? a = some o := let ⟨o, _, _, e, _⟩ := x; ⟨o, e⟩
noncomputable def PU (prog : Program) (w : World) (B : Heap) (ρ : List Addr) (s : Shared) (H' : AH) (s' : Shared) : Prop :=
 ∃ ρ', Run ρ (fun _ => False) s ρ' s' ∧ WR prog w B ρ' H' s'.heap
theorem WR.put (W : WR prog w B ρ H s.heap) {i : Nat} {a : Addr} {o : AO} {h' : Heap} {tk : Nat} (hr : ρ[i]? = some a) (hk : Heap.SameBut a s.heap h') (ho : HO prog w B ρ h' a o) : PU prog w B ρ s (H.set i o) { s with heap := h', toks := tk } := by
 refine in12 (ρ) (Run.but (.inl (List.mem_of_getElem? hr)) (fun b o hb e => (hk.2 b hb).trans e) ?_) (W.set hr (fun b o hb e => (hk.2 b hb).trans e) ho);refine el12 (ho.live) fun ob e O => ?_;exact ⟨ob, e⟩
theorem WR.immBut (W : WR prog w B ρ H s.heap) {i : Nat} {a : Addr} {h' : Heap} (hr : ρ[i]? = some a) (hk : Heap.SameBut a s.heap h') : Imm s.heap h' := by
 intro c oc e hi;refine (hk.2 c (fun e' => ?_)).trans e;refine el12 (W.mem (List.mem_of_getElem? hr)) fun ob e2 hi2 => ?_;rw [e', e2] at e; cases e; rw [hi] at hi2; cases hi2
theorem setNth_spec {ds ds' : List D} {k : Int} {v : D} (e : setNth ds k v = some ds') : ∃ j, seqIndex? k ds.length = some j ∧ j < ds.length ∧ ds' = ds.set j v := by
 unfold setNth at e;unfold seqIndex?
 by_cases h0 : 0 ≤ k
 ·have h1 : ¬ k < 0 := by exact fun hq => ln2 1200 69142721 67072561 [] [_] hq h0
  simp only [h0, h1, if_true, if_false] at e ⊢;revert e;refine ifs fun h e => ?_
  ·cases e;simp only [Bool.and_eq_true, decide_eq_true_eq] at h;exact in13 k.toNat (by rw [if_pos (by simp only [Bool.and_eq_true, decide_eq_true_eq]; with_reducible assumption)]) (by exact ln2 1473601 72222401 70337921 [_,_] [_] (Int.toNat_of_nonneg (ln1 67072561 67072561 [] [_] h0)) h.2) rfl
 ·have h1 : k < 0 := by exact ln1 69142721 69142721 [] [_] (Int.lt_of_not_ge h0)
  simp only [h0, h1, if_true, if_false] at e ⊢;revert e;refine ifs fun h e => ?_
  ·cases e;simp only [Bool.and_eq_true, decide_eq_true_eq] at h;exact in13 ((k + ds.length).toNat) (by rw [if_pos (by simp only [Bool.and_eq_true, decide_eq_true_eq]; with_reducible assumption)]) (by exact ln2 1473601 4655004702401 69142721 [_,_] [_] (Int.toNat_of_nonneg (ln1 4327322112561 4327322112561 [_] [_] h.1)) (Int.lt_of_not_ge h0)) rfl
theorem s_setIt {a k v : D} {H' : AH} {va vk vv : Value} (W : WR prog w B ρ H s.heap) (e : setIt H a k v = some H') (xa : V B ρ s.heap va a) (xk : V B ρ s.heap vk k) (xv : V B ρ s.heap vv v) :
  wpAny (model prog w) A (setItem va vk vv) (fun _ s' => PU prog w B ρ s H' s') F0 s := by
 cases xa with
 | ref hi =>
  cases xk with
  | int i t =>
   revert e;refine obL fun ds hl e => ?_;revert e;refine ifs fun hz e => ?_;refine el12 (Option.map_eq_some_iff.1 e) fun ds' e' zr1 => ?_;subst zr1;refine el12 (W.list hl hi) fun vs ho hv => ?_;have e1 := hv.length;simp only [Array.length_toList] at e1;have h64 := len64 hz;refine el13 (setNth_spec e') fun j hidx hlt zr1 => ?_;subst zr1;have hr := seqIndex_range hidx;refine plain_setItem ho (by exact ln2 67165121 69662401 2686622401 [_] [_,_] h64 hr.1) (by exact ln2 1742721 69726401 70336321 [_] [_,_] h64 hr.2) (by rw [e1]; exact hidx) (by exact ln2 1473601 1603241 1475201 [_,_,_] [] e1 hlt) fun h' hp hs => ?_;refine W.put (tk := s.toks) hi hs ⟨_, hp, ?_⟩;have := (hv.set j xv).mono0 (W.immBut hi hs);simpa using this
  | str y t hy =>
   revert e;refine obE fun es hl e => ?_;revert e;refine ifs fun hz e => ?_;cases e;refine el12 (W.dict hl hi) fun kvs hd hE => ?_;refine wpAny_setItem_pairs (strKind_is prog w y t) hd (fun h' hd' hs => ?_) (by rw [hE.length]; have := maxLen_le; omega);refine W.put hi hs ⟨_, hd', ?_⟩;have := (hE.putE (DictOf.nd hd) hy xv).mono (new := []) (W.immBut hi hs);simpa using this
  | _ => exact nn e
 | _ => exact nn e
end
end Mine
end

-- J
section
namespace Mine
theorem cut_plain {α : Type} (xs : List α) (a b : Nat) : (xs.drop (min a xs.length)).take (min b xs.length - min a xs.length) = (xs.take b).drop a := by
 rw [List.drop_take]
 by_cases h : a ≤ xs.length
 ·rw [Nat.min_eq_left h, List.take_eq_take_iff, List.length_drop, ← Nat.sub_min_sub_right, Nat.min_assoc, Nat.min_self]
 ·rw [Nat.min_eq_right (a := a) (by exact ln1 1409601 1473601 [_,_] [] (Nat.lt_of_not_le h)), List.drop_eq_nil_of_le (Nat.le_refl _), List.drop_eq_nil_of_le (by omega : xs.length ≤ a)];simp
section
variable {prog : Program} {w : World} {B : Heap} {ge : GE} {K : Frag} {ρ : List Addr} {H : AH} {env : Env} {nm : Nms} {loc : Loc} {s : Shared} {A : Around} {p : Ev} {n : Nat}
theorem cut_spec {h : Heap} {items : Array Value} {ds rs : List D} {lo hi st : Option Int} (e : cut ds lo hi st = some rs) (x : VL B ρ h items.toList ds) : VL B ρ h (slicePick items lo hi st).toList rs ∧ st ≠ some 0 := by
 have e1 := x.length;simp only [Array.length_toList] at e1
 cases st with
 | none =>
  simp only [cut] at e;revert e;refine ifs fun hc e => ?_
  ·cases e;simp only [Bool.and_eq_true, decide_eq_true_eq] at hc;refine ⟨?_, fun h => nomatch h⟩;rw [slicePick_plain]
   have ea : lo.elim 0 (clipAt items.size) = min (lo.getD 0).toNat items.toList.length := by
    cases lo with
    | none => simp
    | some a =>
     have h0 : 0 ≤ a := by simpa using hc.1
     refine el11 (Int.eq_ofNat_of_zero_le h0) fun k zr1 => ?_;subst zr1;simp only [Option.elim, Option.getD_some, Array.length_toList];rw [clipAt_nat]; rfl
   have eb : hi.elim items.size (clipAt items.size) = min (hi.getD ds.length).toNat items.toList.length := by
    cases hi with
    | none => simp [e1]
    | some a =>
     have h0 : 0 ≤ a := by simpa using hc.2
     refine el11 (Int.eq_ofNat_of_zero_le h0) fun k zr1 => ?_;subst zr1;simp only [Option.elim, Option.getD_some, Array.length_toList];rw [clipAt_nat]; rfl
   rw [ea, eb];simp only;rw [cut_plain];exact (x.take _).drop _
 | some c =>
  cases lo with
  | some a => simp [cut] at e
  | none => cases hi with
   | some a => simp [cut] at e
   | none =>
    simp only [cut] at e;revert e;refine ifs fun hs e => ?_
    ·cases e;subst hs;refine ⟨?_, by decide⟩;rw [krv_pick];simpa using x.reverse
theorem part_V {h : Heap} {v : Value} {d : D} {o : Option Int} (x : V B ρ h v d) (e : part d = some o) : IsPart v o := by
 unfold part at e
 split at e
 ·cases e; refine V.elim x fun zq => ?_; clear x; subst zq; exact .none
 ·cases e; refine V.elim x fun O zq => ?_; clear x; subst zq; exact .int _ _
 ·exact nn e
set_option tactic.hygienic true in
theorem s_slice {value : Expr} {lo hi st : Option Expr} {q : Pos} {a b c d0 d : D} {H' : AH} {va vb vc v0 : Value} (W : WR prog w B ρ H s.heap) (e : sliceIt H d0 a b c = some (d, H')) (x0 : V B ρ s.heap v0 d0) (xa : V B ρ s.heap va a) (xb : V B ρ s.heap vb b) (xc : V B ρ s.heap vc c) :
  wpAny (model prog w) A (subscriptTail value (.Slice lo hi st q) v0 (.ref s.heap.objs.size)) (PE prog w B ρ s H' d) F0 { s with heap := s.heap.push { cls := .type "slice", data := .fields #[va, vb, vc] } } := by
 have hk : ∀ b o, s.heap.get? b = some o → (s.heap.push { cls := .type "slice", data := .fields #[va, vb, vc] }).get? b = some o := fun b o e => Heap.get?_push_of_some _ e
 generalize hs1 : ({ s with heap := s.heap.push { cls := .type "slice", data := .fields #[va, vb, vc] } } : Shared) = s₁
 have hh : s₁.heap = s.heap.push { cls := .type "slice", data := .fields #[va, vb, vc] } := by rw [← hs1]
 have W1 : WR prog w B ρ H s₁.heap := by rw [hh]; exact W.keep hk
 have R1 : Run ρ (fun _ => False) s ρ s₁ := by rw [← hs1]; exact Run.keep hk
 have hS : s₁.heap.IsSliceOf s.heap.objs.size va vb vc := by rw [hh]; exact Heap.IsSliceOf.new ..
 unfold sliceIt at e
 split at e
 rotate_left
 ·cases e
 rename_i oa ob oc e1 e2 e3
 ·have go : ∀ {l : Addr} {items : Array Value} {ds : List D} (hl : s₁.heap.IsList l items) (hv : VL B ρ s₁.heap items.toList ds) (hz : items.size ≤ sizeLine) (e : (match cut ds oa ob oc with | some rs => newL H rs | none => none) = some (d, H')),
    wpAny (model prog w) A (subscriptTail value (.Slice lo hi st q) (.ref l) (.ref s.heap.objs.size)) (PE prog w B ρ s H' d) F0 s₁ := by
   intro l items ds hl hv hz e;revert e;refine obL fun rs hc e => ?_
   ·refine el02 (cut_spec hc hv) fun hr hne => ?_;refine el03 (newL_eq e) fun _ zr1 zr2 => ?_;subst zr1;subst zr2
    refine tail_any (ops := match st with | none => [.ref s.heap.objs.size, .ref l] | some _ => [.ref l, .ref s.heap.objs.size]) hl.typeIs PySem.slot_list_getitem.lookup ?_ (by cases st <;> rfl)
    exact wpAny_getItem_list_slice hl hS (part_V xa e1) (part_V xb e2) (part_V xc e3) hne (PE.after R1 (W1.pushList (tk := s₁.toks) hr)) hz
  split at e
  ·revert e;refine ifs fun hz e => ?_
   ·refine V.elim x0 fun _ _ _ ho hv zq => ?_;clear x0;subst zq;rename_i l vs m;have hl : s₁.heap.IsList l vs := ⟨_, W1.base _ _ ho, rfl, _, rfl⟩;have hv1 := R1.VL W hv;have e1 := hv.length;simp only [Array.length_toList] at e1;exact go hl hv1 (by have := maxLen_le; omega) e
  ·revert e;refine obL fun ds hl e => ?_
   ·revert e;refine ifs fun hz e => ?_
    ·refine V.elim x0 fun _ hi zq => ?_;clear x0;subst zq;refine el12 (W1.list hl hi) fun vs ho hv => ?_;have e1 := hv.length;simp only [Array.length_toList] at e1;exact go ho.isList hv (by have := maxLen_le; omega) e
  ·exact nn e
end
end Mine
end

-- K
section
namespace Mine
section
variable {prog : Program} {w : World} {B : Heap} {ge : GE} {K : Frag} {ρ : List Addr} {H : AH} {env : Env} {nm : Nms} {loc : Loc} {s : Shared} {A : Around} {p : Ev} {n : Nat}
theorem is_isStr (name : Str) (v : Value) : (strKind prog w).is name v = v.isStr name := (strKind prog w).strs name name 0 v (strKind_is prog w name 0)
theorem keys_plain {es : Array DictEntry} (hk : KeysOf (strKind prog w) es) : es.toList.any (·.refKey) = false := by
 rw [List.any_eq_false];intro e he;refine el12 (hk e (by simpa using he)) fun k h1 O => ?_;refine el11 (Value.isStrOf_shape h1) fun t ht => ?_;simp [DictEntry.refKey, ht]
theorem DictOf.look {h : Heap} {a : Addr} {kvs : List (Str × Value)} (x : h.DictOf (strKind prog w) a kvs) (name : Str) : ∃ od, h.get? a = some od ∧ lookIn name od = some (valueAt kvs name) := by
 refine el36 x fun o es ep ho hc hd hk hp hn => ?_;clear x;refine in12 o ho ?_;unfold lookIn;rw [hd];have := hp.find name;simp only [is_isStr] at this;rw [← this];dsimp only
 cases he : es.toList.find? (·.key.isStr name) with
 | some e => rfl
 | none => simp only [keys_plain hk, Bool.false_eq_true, if_false]; rfl
theorem instAt {h : Heap} {x C dx : Addr} {od : Obj} (h1 : h.get? x = some (instObj C dx)) (h2 : h.get? dx = some od) : InstAt h x (instObj C dx) C (some od) := ⟨h1, rfl, rfl, h2⟩
set_option tactic.hygienic true in
theorem V.handed {h : Heap} {v : Value} {d : D} (x : V B ρ h v d) : handedIn v = true := by
 cases x <;> try rfl
 rename_i b
 cases b <;> first | rfl | decide +kernel
theorem WR.inst {h : Heap} (W : WR prog w B ρ H h) {i : Nat} {C j : Nat} {es : List (Str × D)} {v : Value} (e : H[i]? = some (.inst C j)) (e2 : dictAt H j = some es) (x : V B ρ h v (.ref i)) :
  ∃ a dx kvs, v = .ref a ∧ ρ[i]? = some a ∧ ρ[j]? = some dx ∧ h.get? a = some (instObj C dx) ∧ h.DictOf (strKind prog w) dx kvs ∧ EL B ρ h kvs es := by
 refine V.elim x fun O hi zq => ?_;clear x;subst zq;refine el12 (W.obj _ _ _ e hi) fun dx hj ho => ?_;refine el12 (W.dict e2 hj) fun kvs hd hE => ?_;exact in36 _ dx kvs rfl hi hj ho hd hE
theorem s_attr {a r : D} {name : Str} {va : Value} {expr : Bool} (G : GOk prog w B ge K) (W : WR prog w B ρ H s.heap) (e : attrOf ge H a name = some r) (xa : V B ρ s.heap va a) :
  wpAny (model prog w) A (getAttr va name expr) (PE prog w B ρ s H r) F0 s := by
 revert e;refine orf fun O zq e => ?_;subst zq
 ·revert e;refine ooI fun C j hi e => ?_
  ·revert e;refine odC fun c es hc hd e => ?_
   ·revert e;refine ifs fun hn e => ?_
    ·refine el36 (W.inst hi hd xa) fun x dx kvs zr1 h1 h2 h3 h4 hE => ?_;subst zr1;refine el12 (DictOf.look h4 name) fun od ho hl => ?_;rcases hE.lookup name with ⟨q1, q2⟩ | ⟨v, d', q1, q2, xv⟩
     ·rw [q1] at e; exact nn e
     ·rw [q1] at e; cases e;rw [q2] at hl;refine el0xa (G.cls C c hc) fun O O O O k5 k6 O O O k10 => ?_;have hf := (k10 name (by simpa using hn)).1;exact get_value (G.kin.keeps W.base) (instAt h3 ho) (plainGet_of k5).1 (findObj_own k6 hf (by rfl) hl) (V.handed xv) (PE.here W xv)
theorem pairs_idx {es : Array DictEntry} {kvs : List (Str × Value)} (hp : Pairs (strKind prog w) es.toList kvs) (name : Str) : es.findIdx? (·.key.isStr name) = kvs.findIdx? fun kv => decide (kv.1 = name) := by
 rw [← hp.findIdx name];simp only [is_isStr];obtain ⟨l⟩ := es;simp
theorem DictOf.putName {h : Heap} {a : Addr} {kvs : List (Str × Value)} {name : Str} {v : Value} {tk : Tok} (x : h.DictOf (strKind prog w) a kvs) (hz : kvs.length ≤ 900) :
  ∃ od es' ep', h.get? a = some od ∧ (lookIn name od).isSome = true ∧ (Obj.putName name (PyData.keyHash w.params name) (.str name tk) v od).data = .dict es' ep' ∧ es'.size ≤ 1000 ∧ (Obj.putName name (PyData.keyHash w.params name) (.str name tk) v od).isFreed = false ∧
   (h.update a (Obj.putName name (PyData.keyHash w.params name) (.str name tk) v)).DictOf (strKind prog w) a (PySem.stored kvs name v) := by
 have hlook := DictOf.look x name;refine el36 x fun o es ep ho hc hd hk hp hn => ?_;clear x
 have hsz : es.size = kvs.length := by have e1 := hp.length; simpa using e1
 have hidx := pairs_idx hp name;obtain ⟨cl, dd, dt, sl⟩ := o;refine el03 hc fun c1 c2 c3 => ?_;clear hc;simp only at hd c1 c2 c3;subst hd c1 c2 c3
 have hl : (lookIn name ({ cls := .type "dict", dict := none, data := .dict es ep, slots := #[] } : Obj)).isSome = true := by
  refine el12 hlook fun od e1 e2 => ?_;clear hlook;rw [ho] at e1; cases e1; rw [e2]; rfl
 cases hi : es.findIdx? (·.key.isStr name) with
 | some i =>
  have eput : Obj.putName name (PyData.keyHash w.params name) (.str name tk) v ({ cls := .type "dict", dict := none, data := .dict es ep, slots := #[] } : Obj) = { cls := .type "dict", dict := none, data := .dict (es.modify i fun e => { e with val := v }) ep, slots := #[] } := by
   rw [Obj.putName_eq]; unfold Obj.putNameByArray; simp only [hi]
  refine in36 _ (es.modify i (fun e => { e with val := v })) ep ho hl (by rw [eput]) (by rw [Array.size_modify]; exact ln2 90176020801 90169620841 1537601 [_,_] [] hz hsz) (by rw [eput]; rfl) ?_
  refine in36 _ (es.modify i (fun e => { e with val := v })) ep (by rw [Heap.get?_update_self _ ho (by rw [eput]; rfl), eput]) ⟨rfl, rfl, rfl⟩ rfl (hk.modify _ _) ?_ ?_
  ·rw [PySem.stored, if_pos (any_of_findIdx_some (hidx ▸ hi))]
   have hl' : (es.toList.findIdx? fun e => (strKind prog w).is name e.key) = some i := by
    rw [← hi]; simp only [is_isStr]; obtain ⟨l⟩ := es; simp
   have := hp.modify hn hl' v;obtain ⟨l⟩ := es;simpa using this
  ·rw [PySem.stored, if_pos (any_of_findIdx_some (hidx ▸ hi)), keys_map_store]; exact hn
 | none =>
  have hnot : name ∉ kvs.map (·.1) := not_mem_of_findIdx_none (hidx ▸ hi)
  have hany : ¬ (kvs.any fun kv => decide (kv.1 = name)) = true := by
   rw [List.any_eq_true]; intro zi1; refine el12 zi1 fun kv hkv he => ?_; clear zi1;exact hnot (List.mem_map.mpr ⟨kv, hkv, of_decide_eq_true he⟩)
  have eput : Obj.putName name (PyData.keyHash w.params name) (.str name tk) v ({ cls := .type "dict", dict := none, data := .dict es ep, slots := #[] } : Obj) = { cls := .type "dict", dict := none, data := .dict (es.push ⟨(strKind prog w).hash name, .str name tk, v⟩) (ep + 1), slots := #[] } := by
   rw [Obj.putName_eq]; unfold Obj.putNameByArray; simp only [hi]; rfl
  refine in36 _ (es.push ⟨(strKind prog w).hash name, .str name tk, v⟩) (ep + 1) ho hl (by rw [eput]) (by rw [Array.size_push]; exact ln2 5771265372246401 90169620841 1537601 [_,_] [] hz hsz) (by rw [eput]; rfl) ?_;refine in36 _ (es.push ⟨(strKind prog w).hash name, .str name tk, v⟩) (ep + 1) (by rw [Heap.get?_update_self _ ho (by rw [eput]; rfl), eput]) ⟨rfl, rfl, rfl⟩ rfl (hk.push (strKind_is prog w name tk) _) ?_ ?_
  ·rw [PySem.stored, if_neg hany];have := hp.append (strKind_is prog w name tk) ((strKind prog w).hash name) v;obtain ⟨l⟩ := es;simpa using this
  ·rw [PySem.stored, if_neg hany, List.map_append, List.nodup_append];refine in03 hn (by simp) ?_;intro a ha b hb;simp only [List.map_cons, List.map_nil, List.mem_singleton] at hb;subst hb;exact fun e => hnot (e ▸ ha)
set_option tactic.hygienic true in
theorem osa_here {x C dx : Addr} {od : Obj} {es' : Array DictEntry} {ep' : Nat} {name : Str} {tk : Tok} {v : Value} {R : Result → Shared → Prop} (X : K.In s.heap) (hx : s.heap.get? x = some (instObj C dx)) (D : s.heap.get? dx = some od)
  (hp : plainOver K C = true) (ht : takerIn K C name = some none) (hh : (clsIn K C).any (·.hasDict) = true) (hl : (lookIn name od).isSome = true)
  (e' : (Obj.putName name (PyData.keyHash w.params name) (.str name s.toks) v od).data = .dict es' ep') (hz : es'.size ≤ 1000) (hfr : (Obj.putName name (PyData.keyHash w.params name) (.str name s.toks) v od).isFreed = false)
  (h : R (.ok (.ret .none)) { s with heap := s.heap.update dx (Obj.putName name (PyData.keyHash w.params name) (.str name s.toks) v), toks := s.toks + 1 }) :
  codeAny (model prog w) A (.call (.builtin "object.__setattr__") ⟨[.ref x, .str name tk, v], []⟩) R s := by
 have I := instAt hx D;refine osa_open X I hp ht fun b => ?_;refine el12 (any_some hh) fun cd hc hd' => ?_;have D' := Heap.get?_update_self (Obj.putName name (PyData.keyHash w.params name) (.str name s.toks) v) D hfr;refine wpAny_bind (wpAny_pure (wpAny_bind (wpAny_bind (wpAny_loadPart hx (wpAny_bind ((looks_clsIn X hc).here ?_))))));rw [hd'];refine wpAny_pure (a := some dx) (wpAny_bind (wpAny_pure (wpAny_bind ?_)));unfold nsSet;refine wpAny_bind (wpAny_bind (wpAny_askSetting (wpAny_pure (wpAny_bind (wpAny_mkText (wpAny_bind (wpAny_loadPart D ?_)))))));unfold lookIn at hl
 split at hl
 rotate_left
 ·cases hl
 rename_i es₀ n₀ q
 ·rw [q];dsimp only
  have c : (!es₀.any (·.key.isStr name) && es₀.any (·.refKey)) = false := by
   rw [← Array.any_toList, ← Array.any_toList]
   split at hl
   ·rename_i en he;rw [List.any_eq_true.mpr ⟨en, List.mem_of_find?_eq_some he, List.find?_some he⟩]; rfl
   ·split at hl
    ·exact ff hl
    ·rename_i z; rw [Bool.not_eq_true] at z; rw [z, Bool.and_false]
  rw [aRefKeyMayBeTheName_at, c];refine wpAny_updatePart D ?_;refine wpAny_bind (wpAny_lookBehind D' (by rw [e']; exact pastItsLine_dict (by rw [sizeLine_eq]; exact ln1 9395595928141848001 90176020801 [_] [] hz)) ?_);exact wpAny_pure h
theorem s_setAttr {a v : D} {name : Str} {va vv : Value} {H' : AH} (G : GOk prog w B ge K) (hname : PyData.strOk name = true) (W : WR prog w B ρ H s.heap) (e : Mine.setAttr ge H a name v = some H') (xa : V B ρ s.heap va a) (xv : V B ρ s.heap vv v) :
  wpAny (model prog w) A (PySem.setAttr va name vv) (fun _ s' => PU prog w B ρ s H' s') F0 s := by
 revert e;refine orf fun _ zq e => ?_;subst zq
 ·revert e;refine ooI fun C j hi e => ?_
  ·revert e;refine odC fun c es hc hd e => ?_
   ·revert e;refine ifs fun hn e => ?_
    ·cases e;simp only [Bool.and_eq_true, decide_eq_true_eq] at hn;refine el36 (W.inst hi hd xa) fun x dx kvs zr1 h1 h2 h3 h4 hE => ?_;subst zr1;refine el0xa (G.cls C c hc) fun _ _ _ _ k5 k6 k7 k8 _ k10 => ?_;have ht := (k10 name (by simpa using hn.1)).2;refine el36 (DictOf.putName (name := name) (v := vv) (tk := s.toks + 1) h4 (by rw [hE.length]; exact hn.2)) fun od es' ep' q1 q2 q3 q4 q5 q6 => ?_
     refine set_plain (G.kin.keeps W.base) (instAt h3 q1) k8 (osa_here (s := { s with toks := s.toks + 1 }) (G.kin.keeps W.base) h3 q1 k7 ht k6 q2 q3 q4 q5 ?_)
     have hs : Heap.SameBut dx s.heap (s.heap.update dx (Obj.putName name (PyData.keyHash w.params name) (.str name (s.toks + 1)) vv)) := Heap.SameBut.update ..;refine W.put h2 hs ⟨_, q6, ?_⟩;have := (hE.putE (DictOf.nd h4) hname xv).mono (new := []) (W.immBut h2 hs);simpa using this
end
end Mine
end

-- L
section
namespace Mine
section
variable {prog : Program} {w : World} {B : Heap} {ge : GE} {K : Frag} {ρ : List Addr} {H : AH} {env : Env} {nm : Nms} {loc : Loc} {s : Shared} {A : Around} {p : Ev} {n : Nat}
theorem getLast_snoc {ds : List D} {d : D} (e : ds.getLast? = some d) : ds = ds.dropLast ++ [d] := by
 have hne : ds ≠ [] := by rintro rfl; exact nn e
 rw [List.getLast?_eq_some_getLast hne] at e;cases e;exact (List.dropLast_concat_getLast hne).symm
set_option tactic.hygienic true in
theorem s_mcall {i : Nat} {a : Addr} {name : Str} {ds : List D} {vs : List Value} {d : D} {H' : AH} (G : GOk prog w B ge K) (W : WR prog w B ρ H s.heap) (hr : ρ[i]? = some a) (e : mcall H i name ds = some (d, H')) (x : VL B ρ s.heap vs ds) :
  (name = "append" ∧ (∃ ys, H[i]? = some (.list ys)) ∧ wpAny (model prog w) A (call (.builtin "list.append") (.ref a :: vs)) (PE prog w B ρ s H' d) F0 s) ∨
  (name = "pop" ∧ (∃ ys, H[i]? = some (.list ys)) ∧ wpAny (model prog w) A (call (.builtin "list.pop") (.ref a :: vs)) (PE prog w B ρ s H' d) F0 s) ∨
  (name = "get" ∧ (∃ ys, H[i]? = some (.dict ys)) ∧ wpAny (model prog w) A (call (.builtin "dict.get") (.ref a :: vs)) (PE prog w B ρ s H' d) F0 s) ∨
  (name = "items" ∧ (∃ ys, H[i]? = some (.dict ys)) ∧ wpAny (model prog w) A (call (.builtin "dict.items") (.ref a :: vs)) (PE prog w B ρ s H' d) F0 s) := by
 unfold mcall at e
 split at e
 ·rename_i ys hi
  have hl : listAt H i = some ys := by unfold listAt; rw [hi]
  refine el12 (W.list hl hr) fun us ho hv => ?_;have e1 := hv.length;simp only [Array.length_toList] at e1
  split at e
  ·rename_i hn;refine .inl ⟨by simpa using hn, ⟨_, hi⟩, ?_⟩;revert e;refine ol1 fun d0 zq e => ?_;subst zq
   ·revert e;refine ifs fun hz e => ?_
    ·cases e;refine VL.elim x fun _ _ x1 r zq => ?_;clear x;subst zq;refine VL.elim r fun zq => ?_;clear r;subst zq;refine wpAny_list_append_plain ho (fun h' h1 h2 => ?_) (by have := maxLen_le; omega);refine in13 (ρ) (Run.but (tk := s.toks) (.inl (List.mem_of_getElem? hr)) (fun b o hb => ?_) ?_) ?_ .none
     ·intro he; exact (h2.2 b hb).trans he
     ·revert h1; intro zh1; refine el11 zh1 fun m h1 => ?_; clear zh1; exact ⟨_, h1⟩
     ·refine W.set hr (fun b o hb he => (h2.2 b hb).trans he) ⟨_, h1, ?_⟩;have := (hv.append (VL.one x1)).mono (new := []) (W.immBut hr h2);simpa using this
  ·revert e;refine ifs fun hn e => ?_
   ·refine .inr (.inl ⟨by simpa using hn, ⟨_, hi⟩, ?_⟩);revert e;refine ol0 fun zq e => ?_;subst zq
    ·revert e;refine obD fun d0 hg e => ?_
     ·revert e;refine ifs fun hz e => ?_
      ·cases e;refine VL.elim x fun zq => ?_;clear x;subst zq;have hs := getLast_snoc hg
       have hne : 0 < us.size := by
        cases hq : us.size with
        | zero => rw [hq] at e1; have : ys = [] := List.length_eq_zero_iff.mp e1.symm; subst this; exact nn hg
        | succ m => omega
       have hlast : us[us.size - 1]? = some us[us.size - 1] := Array.getElem?_eq_getElem (by exact ln1 1473601 98447446401 [_,_] [] (Nat.sub_add_cancel (ln1 56322161 58880561 [_] [] hne)))
       have hu : us.toList = (us.eraseIdxIfInBounds (us.size - 1)).toList ++ [us[us.size - 1]] := by
        obtain ⟨l⟩ := us;simp only [List.size_toArray] at hne ⊢
        have hln : l ≠ [] := by rintro rfl; simp at hne
        have hlt : l.length - 1 < l.length := by exact ln1 1473601 98447446401 [_,_] [] (Nat.sub_add_cancel (ln1 56322161 58880561 [_] [] hne))
        simp [Array.eraseIdxIfInBounds, hlt, List.eraseIdx_length_sub_one];rw [← List.getLast_eq_getElem hln];exact (List.dropLast_concat_getLast hln).symm
       have hv' : VL B ρ s.heap ((us.eraseIdxIfInBounds (us.size - 1)).toList ++ [us[us.size - 1]]) (ys.dropLast ++ [d]) := by rw [← hs, ← hu]; exact hv
       refine el23 (hv'.snoc) fun es d1 q1 q2 q3 => ?_;refine el02 (List.append_inj' q1 rfl) fun q4 q5 => ?_;cases q5;refine el11 ho fun m ho' => ?_;clear ho;refine call_meets F.slot_list_pop ⟨_, ho', rfl⟩ F.entry_list_pop (F.args_list_pop_1 _) (PySem.MeetsSeq.list_pop_last a us m _ hlast (by have := maxLen_le; omega)) ⟨ho', ?_⟩;have h2 := Heap.SameBut.update s.heap a (Obj.mapSeq fun xs => xs.eraseIdxIfInBounds (us.size - 1))
       have h1 : (s.heap.update a (Obj.mapSeq fun xs => xs.eraseIdxIfInBounds (us.size - 1))).get? a = some { cls := .type "list", data := .seq (us.eraseIdxIfInBounds (us.size - 1)) (if (us.eraseIdxIfInBounds (us.size - 1)).size == us.size then m else m + 1) } := by
        rw [Heap.get?_update_self _ ho' (by simp [Obj.mapSeq, Obj.isFreed])];simp [Obj.mapSeq]
       have im := W.immBut hr h2;refine in13 (ρ) (Run.but (tk := s.toks) (.inl (List.mem_of_getElem? hr)) (fun b o hb he => (h2.2 b hb).trans he) ⟨_, h1⟩) ?_ ?_
       ·refine W.set hr (fun b o hb he => (h2.2 b hb).trans he) ⟨_, ⟨_, h1⟩, ?_⟩;rw [q4];simpa using q2.mono (new := []) im
       ·simpa using q3.mono (new := []) im
 ·rename_i ys hi
  have hl : dictAt H i = some ys := by unfold dictAt; rw [hi]
  refine el12 (W.dict hl hr) fun kvs hd hE => ?_
  split at e
  ·rename_i hn;refine .inr (.inr (.inl ⟨by simpa using hn, ⟨_, hi⟩, ?_⟩))
   split at e
   ·rename_i k;cases e
    cases x with
    | cons x1 r =>
    refine VL.elim r fun zq => ?_;clear r;subst zq;refine V.elim x1 fun t hk zq => ?_;clear x1;subst zq;refine call_meetsIn F.slot_dict_get hd.typeIs F.entry_dict_get (F.args_dict_get_2 _ _) (meets_dict_get (strKind prog w) a (strKind_is prog w k t) (W.notSys G hr)) ⟨_, hd.mapOf, ?_⟩;rcases hE.lookup k with ⟨h1, h2⟩ | ⟨v, d', h1, h2, xv⟩
    ·rw [h1, h2]; exact PE.here W .none
    ·rw [h1, h2]; exact PE.here W xv
   ·rename_i k d0;cases e
    cases x with
    | cons x1 r =>
    cases r with
    | cons x2 r =>
    refine VL.elim r fun zq => ?_;clear r;subst zq;refine V.elim x1 fun t hk zq => ?_;clear x1;subst zq;refine call_meetsIn F.slot_dict_get hd.typeIs F.entry_dict_get (F.args_dict_get_3 _ _ _) (meets_dict_get_default (strKind prog w) a (strKind_is prog w k t) (W.notSys G hr) _) ⟨_, hd.mapOf, ?_⟩;rcases hE.lookup k with ⟨h1, h2⟩ | ⟨v, d', h1, h2, xv⟩
    ·rw [h1, h2]; exact PE.here W x2
    ·rw [h1, h2]; exact PE.here W xv
   ·exact nn e
  ·revert e;refine ifs fun hn e => ?_
   ·refine .inr (.inr (.inr ⟨by simpa using hn, ⟨_, hi⟩, ?_⟩));revert e;refine ol0 fun zq e => ?_;subst zq
    ·cases e;refine VL.elim x fun zq => ?_;clear x;subst zq;refine call_meetsIn F.slot_dict_items hd.typeIs F.entry_dict_items (F.args_dict_items_1 _) (meets_dict_items (strKind prog w) a (W.notSys G hr)) ⟨⟨kvs, hd⟩, ?_⟩;have hk : ∀ b o, s.heap.get? b = some o → (s.heap.push ({ cls := .type "dict_items", data := .fields #[.ref a] } : Obj)).get? b = some o := fun b o e => Heap.get?_push_of_some _ e;refine in13 (ρ) (Run.keep (tk := s.toks) hk) (W.keep hk) (.items (Heap.get?_push_size _ rfl) hr)
 ·exact nn e
theorem call_method {o : Expr} {name : Str} {apos pos : Pos} {args : List Expr} {Q : Value → Shared → Prop} {E : Value → Shared → Prop} (hb : isSuper o = false) (hs : args.all notStar = true) (hn : args.length ≤ 20) (hl : (apos.endLine == pos.line) = true)
  (h : wpAny (model prog w) A (eval o env) (fun ov s₁ => ∃ c first, (∀ (pl : Sem Bool) (Q' : Value × List Value → Shared → Prop) (E' : Value → Shared → Prop), Q' (c, first) s₁ → wpAny (model prog w) A (getMethod ov name pl) Q' E' s₁) ∧
   wpAny (model prog w) A (callWith pos c first (backTo pos (starEach args env)) []) Q E s₁) E s) :
  wpAny (model prog w) A (eval (.Call (.Attribute o name apos) args [] pos) env) Q E s := by
 rw [arm_eval_Call, base_eq hb];refine wpAny_bind (wpAny_mono h (fun ov s₁ h₁ => ?_) fun O O e => e);refine el22 h₁ fun c first hm hc => ?_;clear h₁;refine wpAny_bind (wpAny_standAt ?_)
 have hfew : ((backTo pos (starEach args env)).all (fun x => !x.1) && (backToKw pos (keywordEach [] env)).all (fun x => x.1.isSome)
   && decide (args.length + ([] : List Keyword).length + (if ([] : List Keyword).isEmpty then 0 else 1) < 30)) = true := by
  have h1 := star_all (env := env) hs;rw [← back_any (pos := pos)] at h1
  have h2 : (backTo pos (starEach args env)).all (fun x => !x.1) = true := by
   rw [List.all_eq_true]; intro x hx;have := List.any_eq_false.mp h1 x hx;simpa using this
  rw [h2];have h3 : (backToKw pos (keywordEach [] env)).all (fun x => x.1.isSome) = true := rfl;rw [h3];simp only [List.length_nil, List.isEmpty_nil, if_true, Bool.true_and, decide_eq_true_eq];exact ln1 249131173314582401 57622401 [_] [] hn
 have hform : methodCallForm (args.length + ([] : List Keyword).length) (backTo pos (starEach args env)) (backToKw pos (keywordEach [] env)) = true := hfew
 have hpos : methodCallPos true o env apos pos = pure pos := by unfold methodCallPos; simp [hl]
 unfold methodCall;rw [hform];refine wpAny_bind (wpAny_holding (hm _ _ _ ?_));exact wpAny_bind (wpAny_of_eq hpos hc)
end
end Mine
end

-- M
section
namespace Mine
section
variable {prog : Program} {w : World} {B : Heap} {ge : GE} {K : Frag} {ρ : List Addr} {H : AH} {env : Env} {nm : Nms} {loc : Loc} {s : Shared} {A : Around} {p : Ev} {n : Nat}
theorem keeps_any {id : String} {h : Heap} : Keeps (model prog w) (.builtin id) h := ⟨.machine, .inr (.inl rfl), Looks.of_pure rfl⟩
theorem descOk_list {ys : List D} {name : Str} (h : descOk (.list ys) name = true) : name = "append" ∨ name = "pop" := by simpa [descOk] using h
theorem descOk_dict {ys : List (Str × D)} {name : Str} (h : descOk (.dict ys) name = true) : name = "get" ∨ name = "items" := by simpa [descOk] using h
set_option tactic.hygienic true in
theorem s_Call_attr {o : Expr} {name : Str} {apos pos : Pos} {args : List Expr} {d : D} {H' : AH} (G : GOk prog w B ge K) (S : Snd prog w B p n) (a0 : AOk n A) (e : exD ge p nm loc (.Call (.Attribute o name apos) args [] pos) H = some (d, H'))
  (W : WR prog w B ρ H s.heap) (F : FR B ρ s.heap env nm loc) : wpAny (model prog w) A (eval (.Call (.Attribute o name apos) args [] pos) env) (PE prog w B ρ s H' d) F0 s := by
 revert e;refine ifn fun hc e => ?_;simp only [Bool.or_eq_true, not_or, Bool.not_eq_true, Bool.not_eq_false', decide_eq_true_eq, Nat.not_lt, Bool.not_eq_true'] at hc;refine el02 hc fun zq1 h4 => ?_;clear hc;refine el02 zq1 fun zq2 h3 => ?_;clear zq1;refine el02 zq2 fun h1 h2 => ?_;clear zq2
 split at e
 rotate_left
 ·cases e
 rename_i i H1 ho
 ·refine call_method h1 (by simpa using h2) (by simpa using h3) (by simpa using h4) (PE.use (S.ex _ _ _ _ _ _ ho A s ρ env a0 W F) fun v ρ₁ s₁ R₁ W₁ V₁ => ?_);have F₁ := F.run W R₁
  split at e
  ·rename_i C j hi;revert e;refine obA fun f hm e => ?_
   ·revert e;refine ocL fun ds H2 ha e => ?_
    ·unfold methOf at hm;rw [hi] at hm;dsimp only at hm;revert hm;refine odC fun c es hc hd hm => ?_
     ·revert hm;refine ifs fun hs hm => ?_
      ·refine el36 (W₁.inst hi hd V₁) fun x dx kvs zr1 q1 q2 q3 q4 hE => ?_;subst zr1;refine el12 (DictOf.look q4 name) fun od ho' hl => ?_;refine el0xa (G.cls C c hc) fun _ _ _ _ k5 k6 _ _ k9 _ => ?_
       have hmem : (name, f) ∈ c.meths := by
        refine el22 (List.lookup_eq_some_iff.mp hm) fun l1 l2 e1 _ => ?_;rw [e1]; simp
       refine el02 (k9 _ hmem) fun m1 m2 => ?_
       have hsh : shadowIn (some od) name = some false := by
        unfold shadowIn;dsimp only;rw [hl];have := hE.isSome name;rw [Option.isNone_iff_eq_none.mp hs] at this;simp [this]
       have hty : typeIn K (.ref f) = some (.type "function") := by
        unfold isFn at m2;simpa using m2
       refine in22 (.ref f) ([.ref x]) (fun pl Q' E' h => method_fn (G.kin.keeps W₁.base) (instAt q3 ho') (plainGet_of k5).1 (plainGet_of k5).2 m1 hty hsh h) ?_;refine s_callWith S.ex a0 (by simpa using h2) ha W₁ F₁ fun vs ρ₂ s₂ R₂ W₂ V₂ => ⟨?_, ?_⟩
       ·refine el11 (G.mth C c hc _ hmem) fun fi hfi => ?_;exact keeps_fn (f := G.fns _ _ hfi) W₂.base
       ·exact any0 (S.cl _ _ _ _ _ e A s₂ ρ₂ _ _ a0 W₂ (.fn f) (.cons (R₂.V W₁ V₁) V₂)) fun _ _ h => PE.after (R₁.trans R₂) h
  ·rename_i ob hni hi;revert e;refine ifs fun hd e => ?_
   ·revert e;refine ocL fun ds H2 ha e => ?_
    ·cases V₁ with
     | ref hr =>
     rename_i x
     have go : ∀ (T id : String), PlainAttrs T → Slot T name id → typeOf (.builtin id) = pure (.type "method_descriptor") → s₁.TypeIs (.ref x) T → (∃ ob, s₁.heap.get? x = some ob ∧ ob.dict = none) →
       (∀ vs ρ₂ s₂, Run ρ₁ (fun _ => False) s₁ ρ₂ s₂ → WR prog w B ρ₂ H2 s₂.heap → ρ₂[i]? = some x → VL B ρ₂ s₂.heap vs ds → wpAny (model prog w) A (call (.builtin id) (.ref x :: vs)) (PE prog w B ρ₂ s₂ H' d) F0 s₂) →
       ∃ c first, (∀ (pl : Sem Bool) (Q' : Value × List Value → Shared → Prop) (E' : Value → Shared → Prop), Q' (c, first) s₁ → wpAny (model prog w) A (getMethod (.ref x) name pl) Q' E' s₁) ∧
        wpAny (model prog w) A (callWith pos c first (backTo pos (starEach args env)) []) (PE prog w B ρ s H' d) F0 s₁ := by
      intro T id pa sl ty tI nd hc;refine in22 (.builtin id) ([.ref x]) (fun pl Q' E' h => getMethod_builtin tI pa sl ty (fun a e => by cases e; exact nd) h) ?_;refine s_callWith S.ex a0 (by simpa using h2) ha W₁ F₁ fun vs ρ₂ s₂ R₂ W₂ V₂ => ⟨keeps_any, ?_⟩
      have hr2 : ρ₂[i]? = some x := by
       refine el12 (R₂.ext) fun new zr1 _ => ?_;subst zr1;rw [List.getElem?_append_left (List.getElem?_eq_some_iff.mp hr).1]; exact hr
      exact any0 (hc vs ρ₂ s₂ R₂ W₂ hr2 V₂) fun _ _ h => PE.after (R₁.trans R₂) h
     cases ob with
     | inst C j => exact absurd rfl (hni C j)
     | list ys =>
      refine el12 (W₁.list (ds := ys) (by unfold listAt; rw [hi]) hr) fun us hp _ => ?_;refine el11 hp fun m hp' => ?_;clear hp;rcases descOk_list hd with rfl | rfl
      ·refine go "list" "list.append" PySem.F.plainAttrs_list slot_list_append type_list_append ⟨_, hp', rfl⟩ ⟨_, hp', rfl⟩ fun vs ρ₂ s₂ R₂ W₂ hr2 V₂ => ?_;rcases s_mcall (A := A) G W₂ hr2 e V₂ with ⟨_, _, h⟩ | ⟨hx, _⟩ | ⟨hx, _⟩ | ⟨hx, _⟩
       ·exact h
       ·exact absurd hx (by decide)
       ·exact absurd hx (by decide)
       ·exact absurd hx (by decide)
      ·refine go "list" "list.pop" PySem.F.plainAttrs_list PySem.F.slot_list_pop PySem.F.type_list_pop ⟨_, hp', rfl⟩ ⟨_, hp', rfl⟩ fun vs ρ₂ s₂ R₂ W₂ hr2 V₂ => ?_;rcases s_mcall (A := A) G W₂ hr2 e V₂ with ⟨hx, _⟩ | ⟨_, _, h⟩ | ⟨hx, _⟩ | ⟨hx, _⟩
       ·exact absurd hx (by decide)
       ·exact h
       ·exact absurd hx (by decide)
       ·exact absurd hx (by decide)
     | dict ys =>
      refine el12 (W₁.dict (es := ys) (by unfold dictAt; rw [hi]) hr) fun kvs hp _ => ?_
      have nd : ∃ ob, s₁.heap.get? x = some ob ∧ ob.dict = none := by
       refine el33 hp fun o es ep q1 q2 _ => ?_;clear hp;exact in12 o q1 q2.2.1
      rcases descOk_dict hd with rfl | rfl
      ·refine go "dict" "dict.get" PySem.F.plainAttrs_dict PySem.F.slot_dict_get PySem.F.type_dict_get hp.typeIs nd fun vs ρ₂ s₂ R₂ W₂ hr2 V₂ => ?_;rcases s_mcall (A := A) G W₂ hr2 e V₂ with ⟨hx, _⟩ | ⟨hx, _⟩ | ⟨_, _, h⟩ | ⟨hx, _⟩
       ·exact absurd hx (by decide)
       ·exact absurd hx (by decide)
       ·exact h
       ·exact absurd hx (by decide)
      ·refine go "dict" "dict.items" PySem.F.plainAttrs_dict PySem.F.slot_dict_items PySem.F.type_dict_items hp.typeIs nd fun vs ρ₂ s₂ R₂ W₂ hr2 V₂ => ?_;rcases s_mcall (A := A) G W₂ hr2 e V₂ with ⟨hx, _⟩ | ⟨hx, _⟩ | ⟨hx, _⟩ | ⟨_, _, h⟩
       ·exact absurd hx (by decide)
       ·exact absurd hx (by decide)
       ·exact absurd hx (by decide)
       ·exact h
  ·exact nn e
end
end Mine
end

-- N
section
namespace Mine
section
variable {prog : Program} {w : World} {B : Heap} {ge : GE} {K : Frag} {ρ : List Addr} {H : AH} {env : Env} {nm : Nms} {loc : Loc} {s : Shared} {A : Around} {p : Ev} {n : Nat}
theorem WR.adopt {h h' : Heap} (W : WR prog w B ρ H h) {a : Addr} {o : AO} (ha : a ∉ ρ) (hB : B.get? a = none) (hi : ∀ ob, h.get? a = some ob → immO ob = false) (hk : ∀ b ob, b ≠ a → h.get? b = some ob → h'.get? b = some ob) (ho : HO prog w B (ρ ++ [a]) h' a o) : WR prog w B (ρ ++ [a]) (H ++ [o]) h' := by
 have im : Imm h h' := by
  intro c oc e hc;refine hk c oc (fun e' => ?_) e;subst e';rw [hi _ e] at hc; exact ff hc
 refine ⟨fun b ob e => hk b ob (fun e' => by rw [e', hB] at e; cases e) (W.base b ob e), List.nodup_append.mpr ⟨W.nd, by simp, fun x hx y hy e => ?_⟩, fun x hx => ?_, by rw [List.length_append, List.length_append, W.len]; rfl, fun i o' b hi' hr => ?_⟩
 ·rw [List.mem_singleton.mp hy] at e; exact ha (e ▸ hx)
 ·rcases List.mem_append.mp hx with hx | hx
  ·exact W.off x hx
  ·rw [List.mem_singleton.mp hx]; exact hB
 ·by_cases hl : i < H.length
  ·rw [List.getElem?_append_left hl] at hi';rw [List.getElem?_append_left (by rw [W.len]; exact hl)] at hr;exact (W.obj i o' b hi' hr).mono im fun ob e => hk b ob (fun e' => ha (e' ▸ List.mem_of_getElem? hr)) e
  ·have hi2 : i = H.length := by
    have := (List.getElem?_eq_some_iff.mp hi').1;rw [List.length_append, List.length_singleton] at this;exact Nat.le_antisymm (ln1 1409601 95849857601 [_,_] [] this) (ln1 1409601 1409601 [_,_] [] (Nat.le_of_not_lt hl))
   subst hi2;rw [List.getElem?_append_right (Nat.le_refl _), Nat.sub_self] at hi';rw [← W.len, List.getElem?_append_right (Nat.le_refl _), Nat.sub_self] at hr;simp at hi' hr;subst hi' hr;exact ho
theorem Run.adopt {X : Addr → Prop} {ρ₁ : List Addr} {s₁ : Shared} {ob : Obj} {h' : Heap} {tk tk0 : Nat} (R : Run ρ X { s with heap := s.heap.push ob, toks := tk0 } ρ₁ s₁) (hk : ∀ b o, b ≠ s.heap.objs.size → s₁.heap.get? b = some o → h'.get? b = some o) (hl : ∃ o, h'.get? s.heap.objs.size = some o) :
  Run ρ X s (ρ₁ ++ [s.heap.objs.size]) { s₁ with heap := h', toks := tk } := by
 obtain ⟨⟨h1, t1, e1⟩, ⟨n1, rfl, hn1⟩, k1, l1⟩ := R;subst e1
 have hne : ∀ b o, s.heap.get? b = some o → b ≠ s.heap.objs.size := fun b o e e' => by rw [e', fresh_size] at e; exact nn e
 refine ⟨⟨h', tk, rfl⟩, ⟨n1 ++ [s.heap.objs.size], by rw [List.append_assoc], fun a ha => ?_⟩, fun b o hb hx e => ?_, fun b o e => ?_⟩
 ·rcases List.mem_append.mp ha with ha | ha
  ·cases e : s.heap.get? a with
   | none => rfl
   | some o =>
    have := hn1 a ha;rw [show (s.heap.push ob).get? a = some o from Heap.get?_push_of_some _ e] at this; cases this
  ·rw [List.mem_singleton.mp ha]; exact fresh_size _
 ·exact hk b o (hne b o e) (k1 b o hb hx (Heap.get?_push_of_some _ e))
 ·refine el11 (l1 b o (Heap.get?_push_of_some _ e)) fun o' e' => ?_;exact ⟨o', hk b o' (hne b o e) e'⟩
noncomputable def prs (pos : Pos) (env : Env) (l : List (Option Expr × Expr)) : List (Sem Value × Sem Value) := l.map fun x => ((evalOpt x.1 env).getD (pure .none), do let y ← eval x.2 env; standAt pos; pure y)
theorem zip_each (pos : Pos) : ∀ (ks : List (Option Expr)) (vs : List Expr), (evalEachOpt ks env).zip ((evalEach vs env).map fun v => (do let x ← v; standAt pos; pure x : Sem Value)) = (ks.zip vs).map fun x => (evalOpt x.1 env, do let y ← eval x.2 env; standAt pos; pure y)
 | [], _ => rfl
 | _ :: _, [] => rfl
 | k :: ks, v :: vs => by
  exact congrArg (List.cons _) (zip_each pos ks vs)
theorem evP_some {f : Expr → AH → Option (D × AH)} : ∀ {es : List (Option Expr × Expr)} {H : AH} {r}, evP f es H = some r → ∀ x ∈ es, x.1.isSome = true
 | [], _, _, _, _, h => nomatch h
 | (k, e) :: r, H, _, h, x, hx => by
  unfold evP at h
  split at h
  ·exact nn h
  ·split at h
   rotate_left
   ·cases h
   ·revert h;refine ocD fun _ _ _ h => ?_
    ·revert h;refine ocE fun _ _ h2 h => ?_
     ·rcases List.mem_cons.mp hx with rfl | hx
      ·rfl
      ·exact evP_some h2 x hx
noncomputable def PP (prog : Program) (w : World) (B : Heap) (ρ : List Addr) (s : Shared) (H' : AH) (es : List (Str × D)) (vs : List (Value × Value)) (s' : Shared) : Prop :=
 ∃ ρ', Run ρ (fun _ => False) s ρ' s' ∧ WR prog w B ρ' H' s'.heap ∧ ∃ kvs, Carries (strKind prog w) vs kvs ∧ EL B ρ' s'.heap kvs es
set_option tactic.hygienic true in
theorem s_pairs {pos : Pos} (S : SEx prog w B p n) (a0 : AOk n A) : ∀ {es : List (Option Expr × Expr)} {H : AH} {ds : List (Str × D)} {H' : AH} {s : Shared} {ρ : List Addr}, evP (p.ex nm loc) es H = some (ds, H') → WR prog w B ρ H s.heap → FR B ρ s.heap env nm loc →
  wpAny (model prog w) A (evalPairs (prs pos env es)) (PP prog w B ρ s H' ds) F0 s
 | [], H, ds, H', s, ρ, e, W, F => by
  revert ds H';refine sm2 ?_;exact evalPairs_nil ⟨ρ, Run.refl .., W, [], trivial, .nil⟩
 | (k, x) :: r, H, ds, H', s, ρ, e, W, F => by
  unfold evP at e
  split at e
  ·exact nn e
  ·rename_i k
   split at e
   rotate_left
   ·cases e
   rename_i y H0 h0
   ·revert e;refine ocD fun d H1 h1 e => ?_
    ·revert e;refine ocE fun ds' H2 h2 e => ?_
     ·revert ds H';refine sm2 ?_;refine evalPairs_cons (PE.use (S _ _ _ _ _ _ h0 A s ρ env a0 W F) fun v ρ₁ s₁ R₁ W₁ V₁ => ?_);refine wpAny_bind (PE.use (S _ _ _ _ _ _ h1 A s₁ ρ₁ env a0 W₁ (F.run W R₁)) fun v2 ρ₂ s₂ R₂ W₂ V₂ => wpAny_bind (wpAny_standAt (wpAny_pure ?_)));refine any0 (s_pairs S a0 h2 W₂ ((F.run W R₁).run W₁ R₂)) fun vs s₃ h => ?_;refine el13 h fun ρ₃ R₃ W₃ zq1 => ?_;clear h;refine el12 zq1 fun kvs c E => ?_;clear zq1;have V₁' := R₃.V W₂ (R₂.V W₁ V₁)
      cases V₁' with
      | str _ t hy => exact ⟨ρ₃, (R₁.trans R₂).trans R₃, W₃, (y, v2) :: kvs, ⟨strKind_is prog w y t, rfl, c⟩, .cons hy (R₃.V W₂ V₂) E⟩
set_option tactic.hygienic true in
theorem stored_nodup {kvs : List (Str × Value)} {k : Str} {v : Value} (hn : (kvs.map (·.1)).Nodup) : ((PySem.stored kvs k v).map (·.1)).Nodup := by
 unfold PySem.stored
 split
 ·rw [keys_map_store]; exact hn
 ·rename_i h;rw [List.map_append, List.nodup_append];refine in03 hn (by simp) (fun a ha b hb => ?_);simp only [List.map_cons, List.map_nil, List.mem_singleton] at hb;subst hb
  rintro rfl
  refine el12 (List.mem_map.mp ha) fun kv h1 h2 => ?_;exact h (List.any_eq_true.mpr ⟨kv, h1, by simpa using h2⟩)
theorem EL.merged {h : Heap} : ∀ {kvs : List (Str × Value)} {es : List (Str × D)} {acc : List (Str × Value)} {ea : List (Str × D)}, EL B ρ h kvs es → EL B ρ h acc ea → (acc.map (·.1)).Nodup → EL B ρ h (PySem.merged acc kvs) (es.foldl (fun r e => Mine.putE r e.1 e.2) ea) ∧ ((PySem.merged acc kvs).map (·.1)).Nodup
 | _, _, _, _, .nil, y, hn => by simpa [PySem.merged] using ⟨y, hn⟩
 | _, _, _, _, .cons hk hv hr, y, hn => by
  have := EL.merged hr (y.putE hn hk hv) (stored_nodup hn);simpa [PySem.merged] using this
theorem s_Dict {ks : List (Option Expr)} {vs : List Expr} {pos : Pos} {d : D} {H' : AH} (S : SEx prog w B p n) (a0 : AOk n A) (e : exD ge p nm loc (.Dict ks vs pos) H = some (d, H'))
  (W : WR prog w B ρ H s.heap) (F : FR B ρ s.heap env nm loc) : wpAny (model prog w) A (eval (.Dict ks vs pos) env) (PE prog w B ρ s H' d) F0 s := by
 revert e;refine ifs fun hc e => ?_
 ·simp only [Bool.and_eq_true, decide_eq_true_eq] at hc;revert e;refine ocE fun es H1 he e => ?_
  ·unfold alloc at e;cases e;have hk0 : ∀ b o, s.heap.get? b = some o → (s.heap.push { cls := .type "dict", data := .dict #[] }).get? b = some o := fun b o e => Heap.get?_push_of_some _ e
   generalize hs0 : ({ s with heap := s.heap.push { cls := .type "dict", data := .dict #[] } } : Shared) = s0
   have hh : s0.heap = s.heap.push { cls := .type "dict", data := .dict #[] } := by rw [← hs0]
   have R0 : Run ρ (fun O => False) s ρ s0 := by rw [← hs0]; exact Run.keep hk0
   have W0 : WR prog w B ρ H s0.heap := by rw [hh]; exact W.keep hk0
   have D0 : s0.heap.DictOf (strKind prog w) s.heap.objs.size [] := by
    rw [hh];exact in36 _ (#[]) 0 (Heap.get?_push_size _ rfl) ⟨rfl, rfl, rfl⟩ rfl (fun O h => by simp at h) .nil List.nodup_nil
   have hρ : s.heap.objs.size ∉ ρ := fun h => by
    refine el12 (W.mem h) fun ob e O => ?_;rw [fresh_size] at e; exact nn e
   have hB : B.get? s.heap.objs.size = none := by
    cases q : B.get? s.heap.objs.size with
    | none => rfl
    | some o => have := W.base _ _ q; rw [fresh_size] at this; exact nn this
   have fin : ∀ (ρ₁ : List Addr) (s₁ : Shared) (kvs : List (Str × Value)) (h' : Heap) (tk : Nat), Run ρ (fun O => False) s0 ρ₁ s₁ → WR prog w B ρ₁ H1 s₁.heap → EL B ρ₁ s₁.heap kvs es → h'.DictOf (strKind prog w) s.heap.objs.size (PySem.merged [] kvs) → Heap.SameBut s.heap.objs.size s₁.heap h' →
     PE prog w B ρ s (H1 ++ [.dict (es.foldl (fun r e => Mine.putE r e.1 e.2) [])]) (.ref H1.length) (.ref s.heap.objs.size) { s₁ with heap := h', toks := tk } := by
    intro ρ₁ s₁ kvs h' tk R₁ W₁ E hD hS
    have D₁ : s₁.heap.DictOf (strKind prog w) s.heap.objs.size [] := by
     refine el32 D0 fun o es ep e r => ?_;clear D0;exact in32 o es ep (R₁.kp _ _ hρ (fun x => x) e) r
    have hρ₁ : s.heap.objs.size ∉ ρ₁ := fun h => by
     refine el12 (R₁.ext) fun new zr1 hn => ?_;subst zr1;rcases List.mem_append.mp h with h | h
     ·exact hρ h
     ·refine el32 D0 fun o es ep e r => ?_;clear D0;rw [hn _ h] at e; exact nn e
    have hi : ∀ ob, s₁.heap.get? s.heap.objs.size = some ob → immO ob = false := fun ob e => by
     refine el34 D₁ fun o es ep e' O hd O => ?_;clear D₁;rw [e] at e'; cases e';simp [immO, hd]
    have hk : ∀ b o, b ≠ s.heap.objs.size → s₁.heap.get? b = some o → h'.get? b = some o := fun b o hb e => (hS.2 b hb).trans e;have im : Imm s₁.heap h' := fun c oc e hc => hk c oc (fun e' => by subst e'; rw [hi _ e] at hc; cases hc) e;refine in13 (ρ₁ ++ [s.heap.objs.size]) ?_ ?_ (.ref (by rw [← W₁.len]; simp))
    ·refine Run.adopt (ob := { cls := .type "dict", data := .dict #[] }) (tk0 := s.toks) ?_ hk ?_
     ·have : ({ s with heap := s.heap.push { cls := .type "dict", data := .dict #[] }, toks := s.toks } : Shared) = s0 := hs0
      rw [this]; exact R₁
     ·refine el32 hD fun o O O e O => ?_; clear hD; exact ⟨o, e⟩
    ·exact W₁.adopt hρ₁ hB hi hk ⟨_, hD, ((EL.merged E .nil List.nodup_nil).1).mono im⟩
   cases ks with
   | nil =>
    have hv : vs = [] := List.length_eq_zero_iff.mp hc.1.symm;subst hv;cases he;refine wpAny_Dict_empty ?_;have := fin ρ s0 [] s0.heap s.toks (Run.refl ..) W0 .nil D0 (Heap.SameBut.refl _ _);rw [← hs0] at this;exact this
   | cons k ks =>
    refine wpAny_Dict_pairs (knd := strKind prog w) (pairs := prs pos env ((k :: ks).zip vs)) ?_ ?_ ?_ ?_
    ·rw [zip_each, prs, List.map_map];refine List.map_congr_left fun x hx => ?_;refine el11 (Option.isSome_iff_exists.mp (evP_some he x hx)) fun y hy => ?_;simp only [Function.comp, hy]
     rfl
    ·cases vs with
     | nil => simp at hc
     | cons v vs => simp [prs]
    ·simp [prs];exact ln3 57302401 1409601 1601681 57302481 [_,_,_] [] (Nat.min_le_right _ _) hc.1 hc.2
    ·rw [hs0];refine any0 (s_pairs S a0 he W0 (F.run W R0)) fun vs' s₁ h => ?_;refine el13 h fun ρ₁ R₁ W₁ zq1 => ?_;clear h;refine el12 zq1 fun kvs c E => ?_;clear zq1;refine in13 kvs c ?_ (fun h' q1 q2 => fin ρ₁ s₁ kvs h' _ R₁ W₁ E q1 q2);refine el32 D0 fun o es ep e r => ?_;clear D0;exact in32 o es ep (R₁.kp _ _ hρ (fun x => x) e) r
end
end Mine
end

-- O
section
namespace Mine
section
variable {prog : Program} {w : World} {B : Heap} {ge : GE} {K : Frag} {ρ : List Addr} {H : AH} {env : Env} {nm : Nms} {loc : Loc} {s : Shared} {A : Around} {p : Ev} {n : Nat}
theorem keeps_D {h : Heap} {v : Value} {d : D} (G : GOk prog w B ge K) (hb : ∀ b o, B.get? b = some o → h.get? b = some o) (hc : callable ge d = true) (x : V B ρ h v d) : Keeps (model prog w) v h := by
 cases x <;> simp only [callable] at hc <;> try (cases hc; done)
 ·refine el11 (Option.isSome_iff_exists.mp hc) fun f hf => ?_;exact keeps_fn (f := G.fns _ _ hf) hb
 ·refine el11 (Option.isSome_iff_exists.mp hc) fun c hf => ?_;exact keeps_K (G.cls _ _ hf).2.2.2.1 h (G.kin.keeps hb)
 ·exact keeps_bi ..
theorem s_Call {x : Str} {q pos : Pos} {args : List Expr} {d : D} {H' : AH} (G : GOk prog w B ge K) (S : Snd prog w B p n) (a0 : AOk n A) (e : exD ge p nm loc (.Call (.Name x q) args [] pos) H = some (d, H'))
  (W : WR prog w B ρ H s.heap) (F : FR B ρ s.heap env nm loc) : wpAny (model prog w) A (eval (.Call (.Name x q) args [] pos) env) (PE prog w B ρ s H' d) F0 s := by
 revert e;refine ifn fun hc e => ?_;revert e;refine ocD fun f H1 hf e => ?_
 ·revert e;refine ifs fun hcl e => ?_
  ·revert e;refine ocL fun ds H2 ha e => ?_
   ·rw [arm_eval_Call_Name'];refine wpAny_bind (PE.use (S.ex _ _ _ _ _ _ hf A s ρ env a0 W F) fun v ρ₁ s₁ R₁ W₁ V₁ => ?_);refine s_callWith (first := []) S.ex a0 (by simpa using hc) ha W₁ (F.run W R₁) fun vs ρ₂ s₂ R₂ W₂ V₂ => ⟨keeps_D G W₂.base hcl (R₂.V W₁ V₁), ?_⟩;exact any0 (S.cl _ _ _ _ _ e A s₂ ρ₂ _ _ a0 W₂ (R₂.V W₁ V₁) V₂) fun O O h => PE.after (R₁.trans R₂) h
theorem s_Tuple {es : List Expr} {x1} {pos : Pos} {d : D} {H' : AH} (S : SEx prog w B p n) (a0 : AOk n A) (e : exD ge p nm loc (.Tuple es x1 pos) H = some (d, H'))
  (W : WR prog w B ρ H s.heap) (F : FR B ρ s.heap env nm loc) : wpAny (model prog w) A (eval (.Tuple es x1 pos) env) (PE prog w B ρ s H' d) F0 s := by
 revert e;refine ifs fun hc e => ?_
 ·simp only [Bool.and_eq_true, decide_eq_true_eq] at hc;revert e;refine ocL fun ds H1 he e => ?_
  ·cases e;refine wpAny_Tuple_spliced (any0 (s_args S a0 hc.1 he W F) fun vs s₁ h => ?_);refine el13 h fun ρ₁ R₁ W₁ V₁ => ?_;clear h;have hl := V₁.length
   have hlen : ∀ {es : List Expr} {H : AH} {ds : List D} {H' : AH}, evs (p.ex nm loc) es H = some (ds, H') → ds.length = es.length := by
    intro es
    induction es with
    | nil => intro H ds H' e; cases e; rfl
    | cons x r ih =>
     intro H ds H' e;revert e;refine ocD fun O O O e => ?_
     ·revert e;refine ocL fun O O h2 e => ?_
      ·cases e;rw [List.length_cons, List.length_cons, ih h2]
   have hk : ∀ b o, s₁.heap.get? b = some o → (s₁.heap.push { cls := .type "tuple", data := .seq vs.toArray }).get? b = some o := fun b o e => Heap.get?_push_of_some _ e;refine ⟨by rw [hl, hlen he]; exact Nat.le_trans hc.2 maxLen_le, ρ₁, R₁.trans (Run.keep (tk := s₁.toks) hk), W₁.keep hk, .tup (Heap.get?_push_size _ rfl) ?_⟩;exact V₁.mono0 fun b o e O => hk b o e
theorem s_List {es : List Expr} {pos : Pos} {d : D} {H' : AH} (S : SEx prog w B p n) (a0 : AOk n A) (e : exD ge p nm loc (.List es pos) H = some (d, H'))
  (W : WR prog w B ρ H s.heap) (F : FR B ρ s.heap env nm loc) : wpAny (model prog w) A (eval (.List es pos) env) (PE prog w B ρ s H' d) F0 s := by
 revert e;refine ifs fun hc e => ?_
 ·simp only [Bool.and_eq_true, decide_eq_true_eq] at hc;revert e;refine ocL fun ds H1 he e => ?_
  ·refine el03 (newL_eq e) fun hz zr1 zr2 => ?_;subst zr1;subst zr2;refine wpAny_List_spliced (any0 (s_args S a0 hc.1 he W F) fun vs s₁ h => ?_);refine el13 h fun ρ₁ R₁ W₁ V₁ => ?_;clear h;refine ⟨by rw [V₁.length]; exact Nat.le_trans hz maxLen_le, ?_⟩;exact PE.after R₁ (WR.pushList (tk := s₁.toks) W₁ (by simpa using V₁))
set_option tactic.hygienic true in
theorem s_BoolOp {op : BoolOp} {pos : Pos} (S : SEx prog w B p n) (a0 : AOk n A) : ∀ {es : List Expr} {H : AH} {d : D} {H' : AH} {s : Shared} {ρ : List Addr}, boolV (p.ex nm loc) op es H = some (d, H') → WR prog w B ρ H s.heap → FR B ρ s.heap env nm loc →
  wpAny (model prog w) A (boolOp pos op (evalEach es env)) (PE prog w B ρ s H' d) F0 s
 | [], _, _, _, _, _, e, _, _ => nomatch e
 | [x], H, d, H', s, ρ, e, W, F => S _ _ _ _ _ _ e A s ρ env a0 W F
 | x :: y :: r, H, d, H', s, ρ, e, W, F => by
  revert e;refine ocD fun d1 H1 h1 e => ?_
  ·split at e
   rotate_left
   ·cases e
   rename_i b hb
   ·show wpAny _ _ (do
     let v ← eval x env
     standAt pos
     let t ← holding [v] (truthy v)
     match op, t with
     | .And, false | .Or, true => pure v
     | _, _ => boolOp pos op (evalEach (y :: r) env)) _ _ s
    refine wpAny_bind (PE.use (S _ _ _ _ _ _ h1 A s ρ env a0 W F) fun v ρ₁ s₁ R₁ W₁ V₁ => ?_);refine wpAny_bind (wpAny_standAt (wpAny_bind (wpAny_holding (s_truth hb V₁ ?_))));have rest : boolV (p.ex nm loc) op (y :: r) H1 = some (d, H') → wpAny (model prog w) A (boolOp pos op (evalEach (y :: r) env)) (PE prog w B ρ s H' d) F0 s₁ := fun e' => any0 (Q' := PE prog w B ρ s H' d) (E := F0) (s_BoolOp (es := y :: r) (H := H1) (d := d) (H' := H') (pos := pos) S a0 e' W₁ (F.run W R₁)) fun _ _ h => PE.after R₁ h
    cases op <;> cases b
    ·cases e; exact wpAny_pure ⟨ρ₁, R₁, W₁, V₁⟩
    ·exact rest e
    ·exact rest e
    ·cases e; exact wpAny_pure ⟨ρ₁, R₁, W₁, V₁⟩
theorem s_part {x : Option Expr} {d : D} {H' : AH} (S : SEx prog w B p n) (a0 : AOk n A) (e : optE (p.ex nm loc) x H = some (d, H')) (W : WR prog w B ρ H s.heap) (F : FR B ρ s.heap env nm loc) :
  wpAny (model prog w) A (evalPart x env) (PE prog w B ρ s H' d) F0 s := by
 cases x with
 | none => cases e; exact wpAny_pure ⟨ρ, Run.refl .., W, .none⟩
 | some x => exact S _ _ _ _ _ _ e A s ρ env a0 W F
theorem sub_plain {v i : Expr} {pos : Pos} (h : isSlice i = false) : exD ge p nm loc (.Subscript v i pos) H = (match p.ex nm loc v H with
  | some (d, H1) => match p.ex nm loc i H1 with
   | some (k, H2) => (getIt H2 d k).map fun r => (r, H2)
   | none => none
  | none => none) := by cases i <;> first | rfl | cases h
theorem s_Sub0 {v i : Expr} {pos : Pos} {d : D} {H' : AH} (G : GOk prog w B ge K) (S : SEx prog w B p n) (a0 : AOk n A) (hs : isSlice i = false) (e : exD ge p nm loc (.Subscript v i pos) H = some (d, H'))
  (W : WR prog w B ρ H s.heap) (F : FR B ρ s.heap env nm loc) : wpAny (model prog w) A (eval (.Subscript v i pos) env) (PE prog w B ρ s H' d) F0 s := by
 rw [sub_plain hs] at e;revert e;refine ocD fun d0 H1 h0 e => ?_
 ·revert e;refine ocD fun k H2 hk e => ?_
  ·revert e;refine omi fun r e he => ?_;cases he;refine Subscript_ (PE.use (S _ _ _ _ _ _ h0 A s ρ env a0 W F) fun v0 ρ₁ s₁ R₁ W₁ V₁ => ?_);refine PE.use (S _ _ _ _ _ _ hk A s₁ ρ₁ env a0 W₁ (F.run W R₁)) fun v1 ρ₂ s₂ R₂ W₂ V₂ => ?_;exact any0 (s_getIt G hs W₂ e (R₂.V W₁ V₁) V₂) fun O O h => PE.after (R₁.trans R₂) h
theorem s_Sub1 {v : Expr} {lo hi st : Option Expr} {q pos : Pos} {d : D} {H' : AH} (G : GOk prog w B ge K) (S : SEx prog w B p n) (a0 : AOk n A) (e : exD ge p nm loc (.Subscript v (.Slice lo hi st q) pos) H = some (d, H'))
  (W : WR prog w B ρ H s.heap) (F : FR B ρ s.heap env nm loc) : wpAny (model prog w) A (eval (.Subscript v (.Slice lo hi st q) pos) env) (PE prog w B ρ s H' d) F0 s := by
 revert e;refine ocD fun d0 H1 h0 e => ?_
 ·revert e;refine ocD fun a H2 ha e => ?_
  ·revert e;refine ocD fun b H3 hb e => ?_
   ·revert e;refine ocD fun c H4 hc e => ?_
    ·refine Subscript_ (PE.use (S _ _ _ _ _ _ h0 A s ρ env a0 W F) fun v0 ρ₁ s₁ R₁ W₁ V₁ => ?_);have F₁ := F.run W R₁;refine wpAny_Slice (PE.use (s_part S a0 ha W₁ F₁) fun va ρ₂ s₂ R₂ W₂ V₂ => ?_);have F₂ := F₁.run W₁ R₂;refine PE.use (s_part S a0 hb W₂ F₂) fun vb ρ₃ s₃ R₃ W₃ V₃ => ?_;have F₃ := F₂.run W₂ R₃;refine PE.use (s_part S a0 hc W₃ F₃) fun vc ρ₄ s₄ R₄ W₄ V₄ => ?_;refine any0 (s_slice W₄ e (R₄.V W₃ (R₃.V W₂ (R₂.V W₁ V₁))) (R₄.V W₃ (R₃.V W₂ V₂)) (R₄.V W₃ V₃) V₄) fun O O h => PE.after (((R₁.trans R₂).trans R₃).trans R₄) h
theorem s_Sub {v i : Expr} {pos : Pos} {d : D} {H' : AH} (G : GOk prog w B ge K) (S : SEx prog w B p n) (a0 : AOk n A) (e : exD ge p nm loc (.Subscript v i pos) H = some (d, H'))
  (W : WR prog w B ρ H s.heap) (F : FR B ρ s.heap env nm loc) : wpAny (model prog w) A (eval (.Subscript v i pos) env) (PE prog w B ρ s H' d) F0 s := by
 cases h : isSlice i with
 | false => exact s_Sub0 G S a0 h e W F
 | true =>
  cases i <;> first | (cases h; done) | exact s_Sub1 G S a0 e W F
theorem s_Attr {v : Expr} {a : Str} {pos : Pos} {d : D} {H' : AH} (G : GOk prog w B ge K) (S : SEx prog w B p n) (a0 : AOk n A) (e : exD ge p nm loc (.Attribute v a pos) H = some (d, H'))
  (W : WR prog w B ρ H s.heap) (F : FR B ρ s.heap env nm loc) : wpAny (model prog w) A (eval (.Attribute v a pos) env) (PE prog w B ρ s H' d) F0 s := by
 revert e;refine ifn fun hs e => ?_;revert e;refine ocD fun d0 H1 h0 e => ?_
 ·revert e;refine omi fun r e he => ?_;cases he;rw [arm_eval_Attribute, base_eq (by simpa using hs)];refine wpAny_bind (PE.use (S _ _ _ _ _ _ h0 A s ρ env a0 W F) fun v0 ρ₁ s₁ R₁ W₁ V₁ => wpAny_bind (wpAny_standAt ?_));refine wpAny_bind (wpAny_holding (PE.use (s_attr G W₁ e V₁) fun v1 ρ₂ s₂ R₂ W₂ V₂ => ?_));exact wpAny_bind (wpAny_letTemporaryGo (wpAny_pure ⟨ρ₂, R₁.trans R₂, W₂, V₂⟩))
end
end Mine
end

-- P
section
namespace Mine
section
variable {prog : Program} {w : World} {B : Heap} {ge : GE} {K : Frag} {ρ ρ' : List Addr} {H : AH} {env : Env} {nm : Nms} {loc : Loc} {s s' : Shared} {A : Around} {p : Ev} {n : Nat} {X : Addr → Prop}
theorem Run.immX (R : Run ρ X s ρ' s') (W : WR prog w B ρ H s.heap) (O : Off B ρ s.heap X) : Imm s.heap s'.heap := W.imm O.imm R.kp
theorem Run.VLX (R : Run ρ X s ρ' s') (W : WR prog w B ρ H s.heap) (O : Off B ρ s.heap X) {v : List Value} {d : List D} (x : Mine.VL B ρ s.heap v d) : Mine.VL B ρ' s'.heap v d := by
 have im := R.immX W O;refine el12 (R.ext) fun new zr1 U => ?_;subst zr1;exact x.mono im
theorem own_kind {k : Option NameKind} (h : isOwn k = true) : k = some .local ∨ k = some .cell := by
 cases k with
 | none => exact ff h
 | some k => cases k <;> first | (cases h; done) | simp
theorem cell_ne_ns {h : Heap} {a b : Addr} {ov : Option Value} {m : Str → Option Value} (x : h.IsCell a ov) (y : h.Ns b m) : a ≠ b := by
 rintro rfl
 refine el12 x fun o ho hd => ?_;clear x;refine el33 y fun o' es ep e hd' O => ?_;clear y;rw [ho] at e; cases e;rw [hd] at hd'; cases hd'
noncomputable def PN (prog : Program) (w : World) (B : Heap) (ρ : List Addr) (s : Shared) (env : Env) (nm : Nms) (loc' : Loc) (H : AH) (s' : Shared) : Prop :=
 Run ρ (Own env nm) s ρ s' ∧ WR prog w B ρ H s'.heap ∧ FR B ρ s'.heap env nm loc'
theorem s_store {x : Str} {v : Value} {d : D} (W : WR prog w B ρ H s.heap) (F : FR B ρ s.heap env nm loc) (hx : isOwn (nm.lookup x) = true) (xv : V B ρ s.heap v d) :
  wpAny (model prog w) A (storeName env x v) (fun _ s' => PN prog w B ρ s env nm (Mine.put loc x d) H s') F0 s := by
 refine el12 (F.ns) fun m hm hv => ?_;rcases own_kind hx with hk | hk
 ·refine wpAny_storeName_local (kcl_local (F.kn x) hk) hm (fun h' h1 h2 => ?_) (by rw [F.kind]; rfl);have hkeep : ∀ b o, ¬ Own env nm b → s.heap.get? b = some o → h'.get? b = some o := fun b o hb e => (h2.2 b (fun e' => hb (.inl e'))).trans e
  have R : Run ρ (Own env nm) s ρ { s with heap := h', toks := s.toks + 1 } := Run.but (.inr (.inl rfl)) (fun b o hb e => (h2.2 b hb).trans e) (by obtain ⟨o, _, _, e, _⟩ := h1; exact ⟨o, e⟩)
  have im := R.immX W F.off;refine in03 R (W.step F.off hkeep) ⟨F.kind, F.gl, F.bu, F.kn, F.kc, ⟨_, h1, fun y e hy hl => ?_⟩, F.lρ, F.lB, fun y hy => ?_, F.inj⟩
  ·rcases look_put hl with ⟨rfl, rfl⟩ | ⟨q1, q2⟩
   ·exact in12 v (by simp) (xv.mono0 im)
   ·refine el12 (hv y e hy q2) fun u e1 e2 => ?_;exact in12 u (by simp [q1, e1]) (e2.mono0 im)
  ·refine el25 (F.cells y hy) fun a ov e1 e2 e3 e4 e5 => ?_;have hne := cell_ne_ns e2 hm;refine in25 a ov e1 ?_ e3 e4 (fun e hl => ?_)
   ·refine el12 e2 fun o ho hd => ?_;clear e2;exact in12 o ((h2.2 a hne).trans ho) hd
   ·rcases look_put hl with ⟨rfl, rfl⟩ | ⟨q1, q2⟩
    ·rw [hk] at hy; exact ff hy
    ·refine el12 (e5 e q2) fun u e1 e2 => ?_;exact in12 u e1 (e2.mono0 im)
 ·refine el25 (F.cells x (by rw [hk]; rfl)) fun c ov c1 c2 c3 c4 c5 => ?_;refine wpAny_storeName_cell F.kind (F.kc x hk) c1 c2 (fun h' h1 h2 => ?_);have hown : Own env nm c := .inr ⟨x, hk, c1⟩;have hkeep : ∀ b o, ¬ Own env nm b → s.heap.get? b = some o → h'.get? b = some o := fun b o hb e => (h2.2 b (fun e' => hb (e' ▸ hown))).trans e
  have R : Run ρ (Own env nm) s ρ { s with heap := h', toks := s.toks } := Run.but (.inr hown) (fun b o hb e => (h2.2 b hb).trans e) (by obtain ⟨o, e, _⟩ := h1; exact ⟨o, e⟩)
  have im := R.immX W F.off;have hne := cell_ne_ns c2 hm;refine in03 R (W.step F.off hkeep) ⟨F.kind, F.gl, F.bu, F.kn, F.kc, ⟨m, ?_, fun y e hy hl => ?_⟩, F.lρ, F.lB, fun y hy => ?_, F.inj⟩
  ·refine el32 hm fun o es ep e r => ?_;clear hm;exact in32 o es ep ((h2.2 _ (Ne.symm hne)).trans e) r
  ·rcases look_put hl with ⟨rfl, rfl⟩ | ⟨q1, q2⟩
   ·rw [hk] at hy; cases hy
   ·refine el12 (hv y e hy q2) fun u e1 e2 => ?_;exact in12 u e1 (e2.mono0 im)
  ·by_cases hxy : y = x
   ·subst hxy;refine in25 c (some v) c1 h1 c3 c4 (fun e hl => ?_);rcases look_put hl with ⟨_, rfl⟩ | ⟨q1, q2⟩
    ·exact in12 v rfl (xv.mono0 im)
    ·exact absurd rfl q1
   ·refine el25 (F.cells y hy) fun a ov' e1 e2 e3 e4 e5 => ?_
    have hac : a ≠ c := by
     rintro rfl
     exact hxy (F.inj y x a hy (by rw [hk]; rfl) e1 c1)
    refine in25 a ov' e1 ?_ e3 e4 (fun e hl => ?_)
    ·refine el12 e2 fun o ho hd => ?_;clear e2;exact in12 o ((h2.2 a hac).trans ho) hd
    ·rcases look_put hl with ⟨rfl, rfl⟩ | ⟨q1, q2⟩
     ·exact absurd rfl hxy
     ·refine el12 (e5 e q2) fun u e1 e2 => ?_;exact in12 u e1 (e2.mono0 im)
theorem FR.keep {h h' : Heap} (F : FR B ρ h env nm loc) (hk : ∀ b o, h.get? b = some o → h'.get? b = some o) : FR B ρ h' env nm loc := by
 have im : Imm h h' := fun b o e O => hk b o e;refine ⟨F.kind, F.gl, F.bu, F.kn, F.kc, ?_, F.lρ, F.lB, fun x hx => ?_, F.inj⟩
 ·refine el12 (F.ns) fun m zq1 hv => ?_;refine el32 zq1 fun o es ep e r => ?_;clear zq1;refine in12 m ⟨o, es, ep, hk _ _ e, r⟩ (fun x d hx hd => ?_);refine el12 (hv x d hx hd) fun v e hv => ?_;exact in12 v e (hv.mono0 im)
 ·refine el25 (F.cells x hx) fun a ov e1 zq1 e3 e4 e5 => ?_;refine el12 zq1 fun o ho hd => ?_;clear zq1;refine in25 a ov e1 ⟨o, hk _ _ ho, hd⟩ e3 e4 (fun d hd => ?_);refine el12 (e5 d hd) fun v e hv => ?_;exact in12 v e (hv.mono0 im)
set_option tactic.hygienic true in
theorem names_each : ∀ {ts : List Expr} {xs : List Str}, omap nameOf ts = some xs → ∃ ps : List Pos, ps.length = xs.length ∧ ts = (xs.zip ps).map fun x => Expr.Name x.1 x.2
 | [], xs, h => by cases h; exact ⟨[], rfl, rfl⟩
 | t :: ts, xs, h => by
  unfold omap at h
  split at h
  rotate_left
  ·cases h
  rename_i x hx
  ·split at h
   rotate_left
   ·cases h
   rename_i ys hy
   ·revert xs;refine sm1 ?_;refine el12 (names_each hy) fun ps h1 h2 => ?_
    cases t with
    | Name y q =>
     revert x;refine sm1 ?_;exact in12 (q :: ps) (by simp [h1]) (by rw [h2]; rfl)
    | _ => exact nn hx
set_option tactic.hygienic true in
theorem s_fill : ∀ {xs : List Str} {ds : List D} {vs : List Value} {loc loc' : Loc} {s : Shared} {fs : List (Value → Sem Unit)}, (fs.length = xs.length) → (∀ (i : Nat) (f : Value → Sem Unit) (x : Str), fs[i]? = some f → xs[i]? = some x → f = bindName env x ∨ ∃ q, f = assign (.Name x q) env) →
  fill nm xs ds loc = some loc' → WR prog w B ρ H s.heap → FR B ρ s.heap env nm loc → VL B ρ s.heap vs ds →
  wpAny (model prog w) A (assignInOrder fs vs) (fun _ s' => PN prog w B ρ s env nm loc' H s') F0 s
 | [], ds, vs, loc, loc', s, fs, hl, hf, e, W, F, x => by
  cases ds with
  | nil =>
   revert loc';refine sm1 ?_;have : fs = [] := List.length_eq_zero_iff.mp hl;subst this;refine VL.elim x fun zq => ?_;clear x;subst zq;exact wpAny_pure ⟨Run.refl .., W, F⟩
  | cons d ds => exact nn e
 | y :: xs, ds, vs, loc, loc', s, fs, hl, hf, e, W, F, x => by
  cases ds with
  | nil => exact nn e
  | cons d ds =>
   revert e;refine ifs fun hy e => ?_
   ·cases fs with
    | nil => simp at hl
    | cons f fs =>
     refine VL.elim x fun _ _ x1 xr zq => ?_;clear x;subst zq;rename_i v vs
     have go : wpAny (model prog w) A (f v) (fun _ s' => PN prog w B ρ s env nm (Mine.put loc y d) H s') F0 s := by
      rcases hf 0 f y rfl rfl with rfl | ⟨q, rfl⟩
      ·exact wpAny_bindName (s_store W F hy x1)
      ·exact wpAny_assign_Name (s_store W F hy x1)
     show wpAny _ _ (do holding vs (f v); assignInOrder fs vs) _ _ s
     refine wpAny_bind (wpAny_holding (any0 go fun _ s₁ h => ?_));refine el03 h fun R₁ W₁ F₁ => ?_;clear h;refine any0 (s_fill (by simpa using hl) (fun i f x h1 h2 => hf (i + 1) f x (by simpa using h1) (by simpa using h2)) e W₁ F₁ (R₁.VLX W F.off xr)) fun _ s₂ h => ?_;refine el03 h fun R₂ W₂ F₂ => ?_;clear h;exact in03 (R₁.trans R₂) W₂ F₂
theorem fill_len : ∀ {xs : List Str} {ds : List D} {loc loc' : Loc}, fill nm xs ds loc = some loc' → xs.length = ds.length
 | [], ds, _, _, h => by cases ds <;> first | rfl | cases h
 | x :: xs, ds, loc, loc', h => by
  cases ds with
  | nil => exact nn h
  | cons d ds =>
   revert h;refine ifs fun _ h => ?_
   ·rw [List.length_cons, List.length_cons, fill_len h]
theorem each_names : ∀ {xs : List Str} {ps : List Pos}, ps.length = xs.length → assignEach ((xs.zip ps).map fun x => Expr.Name x.1 x.2) env = (xs.zip ps).map fun x => (false, assign (.Name x.1 x.2) env)
 | [], _, _ => rfl
 | x :: xs, [], h => by simp at h
 | x :: xs, q :: ps, h => by
  show (false, _) :: assignEach _ env = _ :: _
  exact congrArg _ (each_names (by simpa using h))
set_option tactic.hygienic true in
theorem s_bindT {t : Expr} {v : Value} {d : D} {loc' : Loc} (a0 : A.handled = none) (e : bindT nm t d loc = some loc') (W : WR prog w B ρ H s.heap) (F : FR B ρ s.heap env nm loc) (x : V B ρ s.heap v d) :
  wpAny (model prog w) A (assign t env v) (fun _ s' => PN prog w B ρ s env nm loc' H s') F0 s := by
 unfold bindT at e
 split at e
 ·revert e;refine ifs fun hx e => ?_
  ·cases e;exact wpAny_assign_Name (s_store W F hx x)
 ·split at e
  rotate_left
  ·cases e
  rename_i xs ds hn
  ·revert e;refine ifs fun hz e => ?_
   ·refine V.elim x fun _ _ _ ho hv zq => ?_;clear x;subst zq;rename_i a vs m;refine el12 (names_each hn) fun ps hp zr1 => ?_;subst zr1;have hl := fill_len e;have hvl := hv.length;simp only [Array.length_toList] at hvl;have hA := each_names (env := env) hp;refine wpAny_assign_Tuple a0 ⟨_, ho, rfl, _, rfl⟩ ?_ ?_ fun h' hh => ?_
    ·rw [hA]; simp [hp]; exact Nat.le_antisymm (ln2 1409601 1539201 1603241 [_,_,_] [] hl hvl) (ln2 1409601 1603241 1539201 [_,_,_] [] hl hvl)
    ·rw [hA, List.findIdx?_eq_none_iff];intro y hy;refine el12 (List.mem_map.mp hy) fun z _ zr1 => ?_;subst zr1
     rfl
    ·rw [hA, List.map_map];have hk : ∀ b o, s.heap.get? b = some o → h'.get? b = some o := fun b o e => hh b o (fun e' => by rw [e', fresh_size] at e; cases e) e
     refine any0 (s_fill (s := { s with heap := h' }) (by simp [hp]) (fun i f x h1 h2 => ?_) e (W.keep hk) (F.keep hk) (hv.mono0 fun b o e _ => hk b o e)) fun _ s₂ h => ?_
     ·rw [List.getElem?_map] at h1
      cases hz : (xs.zip ps)[i]? with
      | none => rw [hz] at h1; exact nn h1
      | some z =>
       rw [hz] at h1;revert f;refine sm1 ?_;have := (List.getElem?_zip_eq_some.mp hz).1;rw [h2] at this; cases this;exact .inr ⟨z.2, rfl⟩
     ·refine el03 h fun R₂ W₂ F₂ => ?_;clear h;exact in03 ((Run.keep (tk := s.toks) hk).trans R₂) W₂ F₂
 ·exact nn e
end
end Mine
end

-- Q
section
namespace Mine
section
variable {prog : Program} {w : World} {B : Heap} {ge : GE} {K : Frag} {ρ ρ' : List Addr} {H : AH} {env : Env} {nm : Nms} {loc : Loc} {s s' : Shared} {A : Around} {p : Ev} {n : Nat}
theorem PT.after {t b : Bool} {ρ₁ : List Addr} {s₁ : Shared} {H' : AH} (R : Run ρ (fun _ => False) s ρ₁ s₁) (x : PT prog w B ρ₁ s₁ H' t b s') : PT prog w B ρ s H' t b s' := by
 refine el02 x fun e zq1 => ?_;clear x;refine el12 zq1 fun ρ' R' W' => ?_;clear zq1;exact ⟨e, ρ', R.trans R', W'⟩
theorem PT.use {Q : Bool → Shared → Prop} {E : Value → Shared → Prop} {H' : AH} {b : Bool} {t : Sem Bool} (h : wpAny (model prog w) A t (PT prog w B ρ s H' b) F0 s)
  (k : ∀ ρ₁ s₁, Run ρ (fun _ => False) s ρ₁ s₁ → WR prog w B ρ₁ H' s₁.heap → Q b s₁) : wpAny (model prog w) A t Q E s :=
 any0 h fun v s₁ ⟨e, ρ₁, a, b⟩ => e ▸ k ρ₁ s₁ a b
theorem s_allT {op : BoolOp} (S : STr prog w B p n) (a0 : AOk n A) : ∀ {es : List Expr} {H : AH} {t : Bool} {H' : AH} {s : Shared} {ρ : List Addr}, allT (p.tr nm loc) op es H = some (t, H') → WR prog w B ρ H s.heap → FR B ρ s.heap env nm loc →
  wpAny (model prog w) A (allTrue op es env) (PT prog w B ρ s H' t) F0 s
 | [], H, t, H', s, ρ, e, W, F => by
  cases op <;> (cases e; exact wpAny_pure ⟨rfl, ρ, Run.refl .., W⟩)
 | x :: r, H, t, H', s, ρ, e, W, F => by
  revert e;refine ocB fun b H1 h1 e => ?_
  ·show wpAny _ _ (do match op, ← isTrue x env (eval x env) with | .And, false => pure false | .Or, true => pure true | _, _ => allTrue op r env) _ _ s
   refine wpAny_bind (PT.use (S _ _ _ _ _ _ h1 A s ρ env a0 W F) fun ρ₁ s₁ R₁ W₁ => ?_);have rest : allT (p.tr nm loc) op r H1 = some (t, H') → wpAny (model prog w) A (allTrue op r env) (PT prog w B ρ s H' t) F0 s₁ := fun e' => any0 (s_allT (op := op) S a0 e' W₁ (F.run W R₁)) fun O O h => PT.after R₁ h
   cases op <;> cases b
   ·cases e; exact wpAny_pure ⟨rfl, ρ₁, R₁, W₁⟩
   ·exact rest e
   ·exact rest e
   ·cases e; exact wpAny_pure ⟨rfl, ρ₁, R₁, W₁⟩
theorem s_Cmp {l r : Expr} {op : CmpOp} {pos : Pos} {d : D} {H' : AH} (G : GOk prog w B ge K) (S : SEx prog w B p n) (a0 : AOk n A) (e : exD ge p nm loc (.Compare l [op] [r] pos) H = some (d, H'))
  (W : WR prog w B ρ H s.heap) (F : FR B ρ s.heap env nm loc) : wpAny (model prog w) A (eval (.Compare l [op] [r] pos) env) (PE prog w B ρ s H' d) F0 s := by
 revert e;refine ifn fun hm e => ?_;revert e;refine ocD fun a H1 h1 e => ?_
 ·revert e;refine ocD fun b H2 h2 e => ?_
  ·revert e;refine omi fun t e he => ?_;cases he;refine wpAny_Compare1 (PE.use (S _ _ _ _ _ _ h1 A s ρ env a0 W F) fun va ρ₁ s₁ R₁ W₁ V₁ => ?_) (by simpa using hm);refine PE.use (S _ _ _ _ _ _ h2 A s₁ ρ₁ env a0 W₁ (F.run W R₁)) fun vb ρ₂ s₂ R₂ W₂ V₂ => ?_;exact any0 (s_cmp G a0 W₂ e (R₂.V W₁ V₁) V₂) fun O O h => PE.after (R₁.trans R₂) (h.pe W₂)
theorem s_trCmp {l r : Expr} {op : CmpOp} {pos : Pos} {t : Bool} {H' : AH} {whole : Sem Value} (G : GOk prog w B ge K) (S : SEx prog w B p n) (a0 : AOk n A) (e : trD ge p nm loc (.Compare l [op] [r] pos) H = some (t, H'))
  (W : WR prog w B ρ H s.heap) (F : FR B ρ s.heap env nm loc) : wpAny (model prog w) A (isTrue (.Compare l [op] [r] pos) env whole) (PT prog w B ρ s H' t) F0 s := by
 revert e;refine ifn fun hm e => ?_;revert e;refine ocD fun a H1 h1 e => ?_
 ·revert e;refine ocD fun b H2 h2 e => ?_
  ·revert e;refine omi fun t e he => ?_;cases he;refine wpAny_isTrue_Compare1 (PE.use (S _ _ _ _ _ _ h1 A s ρ env a0 W F) fun va ρ₁ s₁ R₁ W₁ V₁ => ?_) (by simpa using hm);refine PE.use (S _ _ _ _ _ _ h2 A s₁ ρ₁ env a0 W₁ (F.run W R₁)) fun vb ρ₂ s₂ R₂ W₂ V₂ => ?_;refine any0 (s_cmp G a0 W₂ e (R₂.V W₁ V₁) V₂) fun v s₃ h => ?_;refine el02 h fun zr1 zq2 => ?_;clear h;subst zr1;refine el11 zq2 fun tk zr3 => ?_;clear zq2;subst zr3;exact wpAny_truthy_bool ⟨rfl, ρ₂, (R₁.trans R₂).trans Run.tk, W₂⟩
noncomputable def trSp : Expr → Bool
 | .UnaryOp .Not _ _ => true
 | .BoolOp .. => true
 | .Compare .. => true
 | .IfExp .. => true
 | _ => false
set_option tactic.hygienic true in
theorem tr_plain {e : Expr} (h : trSp e = false) : trD ge p nm loc e H = (match p.ex nm loc e H with
  | some (d, H1) => (truth d).map fun b => (b, H1)
  | none => none) := by
 cases e <;> first | rfl | (cases h; done) | (rename_i op _ _; cases op <;> first | rfl | cases h)
set_option tactic.hygienic true in
theorem tr_value {e : Expr} {whole : Sem Value} (h : trSp e = false) : isTrue e env whole = (do let v ← whole; standAt e.pos; holding [v] (truthy v)) := by
 cases e <;> first | rfl | (cases h; done) | (rename_i op _ _; cases op <;> first | rfl | cases h)
set_option tactic.hygienic true in
theorem s_tr {e : Expr} {t : Bool} {H' : AH} (G : GOk prog w B ge K) (S : Snd prog w B p n) (a0 : AOk n A) (h : trD ge p nm loc e H = some (t, H')) (W : WR prog w B ρ H s.heap) (F : FR B ρ s.heap env nm loc) :
  wpAny (model prog w) A (isTrue e env (eval e env)) (PT prog w B ρ s H' t) F0 s := by
 cases hs : trSp e with
 | false =>
  rw [tr_plain hs] at h;revert h;refine ocD fun d H1 h1 h => ?_
  ·revert h;refine omi fun b e1 e2 => ?_;cases e2;exact wpAny_isTrue_value (PE.use (S.ex _ _ _ _ _ _ h1 A s ρ env a0 W F) fun v ρ₁ s₁ R₁ W₁ V₁ => s_truth e1 V₁ ⟨rfl, ρ₁, R₁, W₁⟩) (tr_value hs)
 | true =>
  cases e <;> try (cases hs; done)
  ·exact wpAny_isTrue_BoolOp (s_allT S.tr a0 h W F)
  ·rename_i op x pos
   cases op <;> try (cases hs; done)
   revert h;refine opi fun b H1 e1 e2 => ?_;cases e2;exact wpAny_isTrue_Not (PT.use (S.tr _ _ _ _ _ _ e1 A s ρ env a0 W F) fun ρ₁ s₁ R₁ W₁ => ⟨rfl, ρ₁, R₁, W₁⟩)
  ·exact nn h
  ·rename_i l ops rs pos
   cases ops with
   | nil => exact nn h
   | cons op ops =>
    cases ops with
    | cons _ _ => exact nn h
    | nil =>
     cases rs with
     | nil => exact nn h
     | cons r rs =>
      cases rs with
      | cons _ _ => exact nn h
      | nil => exact s_trCmp G S.ex a0 h W F
end
end Mine
end

-- R
section
namespace Mine
section
variable {prog : Program} {w : World} {B : Heap} {ge : GE} {K : Frag} {ρ ρ' : List Addr} {H : AH} {env : Env} {nm : Nms} {loc : Loc} {s s' : Shared} {A : Around} {p : Ev} {n : Nat} {X Y : Addr → Prop}
inductive Itr (B : Heap) (ρ : List Addr) (h : Heap) (ds : List D) (k : Nat) : (AH → Bool) → Value → (Addr → Prop) → Bool → Prop
 | tup {I ax : Addr} {vs : Array Value} {n : Nat} (h1 : h.IsTupleIter I ax k) (h2 : h.get? ax = some { cls := .type "tuple", data := .seq vs n }) (hv : VL B ρ h vs.toList ds) : Itr B ρ h ds k (still none ds) (.ref I) (· = I) false
 | fl {I ax : Addr} {vs : Array Value} {n : Nat} (h1 : h.IsListIter I ax k) (h2 : B.get? ax = some { cls := .type "list", data := .seq vs n }) (hv : VL B ρ h vs.toList ds) : Itr B ρ h ds k (still none ds) (.ref I) (· = I) false
 | list {I ax : Addr} {i : Nat} (h1 : h.IsListIter I ax k) (hi : ρ[i]? = some ax) : Itr B ρ h ds k (still (some i) ds) (.ref I) (· = I) false
 | rng {I : Addr} {a : Int} {m : Nat} (hd : ds = (List.range m).map fun k : Nat => .int (a + (k : Int))) (h1 : IsRangeIter h I (a + (k : Int)) ((m : Int) - (k : Int)) 1) : Itr B ρ h ds k (still none ds) (.ref I) (· = I) false
 | enm {e it ax : Addr} {i : Nat} {ds0 : List D} {old : Value} (hd : ds = enumOf ds0) (h1 : IsEnum h e it (k : Int) old) (h2 : h.IsListIter it ax k) (hi : ρ[i]? = some ax) (hne : e ≠ it) : Itr B ρ h ds k (still (some i) ds0) (.ref e) (fun a => a = e ∨ a = it) true
structure Prv (B : Heap) (ρ : List Addr) (h : Heap) (X : Addr → Prop) : Prop where
 off : Off B ρ h X
 lv : ∀ a, X a → ∃ o, h.get? a = some o
theorem Prv.run (P : Prv B ρ s.heap X) (R : Run ρ Y s ρ' s') (hd : ∀ a, X a → ¬ Y a) : Prv B ρ' s'.heap X := by
 refine el12 (R.ext) fun new zr1 hn => ?_;subst zr1;refine ⟨⟨fun a ha hm => ?_, P.off.base, fun a o ha e => ?_⟩, fun a ha => ?_⟩
 ·rcases List.mem_append.mp hm with hm | hm
  ·exact P.off.ρ a ha hm
  ·refine el11 (P.lv a ha) fun o e => ?_;rw [hn a hm] at e; exact nn e
 ·refine el11 (P.lv a ha) fun o' e' => ?_;have := R.kp a o' (P.off.ρ a ha) (hd a ha) e';rw [e] at this; cases this;exact P.off.imm a _ ha e'
 ·refine el11 (P.lv a ha) fun o' e' => ?_;exact ⟨_, R.kp a o' (P.off.ρ a ha) (hd a ha) e'⟩
theorem Itr.run {ds : List D} {k : Nat} {chk : AH → Bool} {Iv : Value} {z : Bool} (it : Itr B ρ s.heap ds k chk Iv X z) (P : Prv B ρ s.heap X) (R : Run ρ Y s ρ' s') (im : Imm s.heap s'.heap) (hd : ∀ a, X a → ¬ Y a) : Itr B ρ' s'.heap ds k chk Iv X z := by
 have kp : ∀ a o, X a → s.heap.get? a = some o → s'.heap.get? a = some o := fun a o ha e => R.kp a o (P.off.ρ a ha) (hd a ha) e;refine el12 (R.ext) fun new zr1 hn => ?_;subst zr1
 cases it with
 | tup h1 h2 hv => exact .tup (let ⟨o, a, b⟩ := h1; ⟨o, kp _ _ rfl a, b⟩) (im _ _ h2 rfl) (hv.mono im)
 | fl h1 h2 hv => exact .fl (let ⟨o, a, b⟩ := h1; ⟨o, kp _ _ rfl a, b⟩) h2 (hv.mono im)
 | list h1 hi => exact .list (let ⟨o, a, b⟩ := h1; ⟨o, kp _ _ rfl a, b⟩) (by rw [List.getElem?_append_left (List.getElem?_eq_some_iff.mp hi).1]; exact hi)
 | rng hds h1 => exact .rng hds (kp _ _ rfl h1)
 | enm hds h1 h2 hi hne => exact .enm hds (kp _ _ (.inl rfl) h1) (let ⟨o, a, b⟩ := h2; ⟨o, kp _ _ (.inr rfl) a, b⟩) (by rw [List.getElem?_append_left (List.getElem?_eq_some_iff.mp hi).1]; exact hi) hne
theorem go_plain {tgt : Expr} {I : Addr} {o : Obj} {T : String} {v : Value} {vs : Array Value} {Q : Unit → Shared → Prop} {E : Value → Shared → Prop} (ho : s.heap.get? I = some o) (hc : o.cls = .type T) (hd : o.data = .fields vs)
  (hT : (["enumerate", "zip", "dict_itemiterator", "dict_reverseitemiterator", "odict_iterator", "itertools.zip_longest", "itertools.pairwise"].contains T) = false) (hQ : Q () s) : wpAny (model prog w) A (letOwnedTupleGo tgt (.ref I) v) Q E s := by
 have go : wpAny (model prog w) A (do
   let (.ref r, .ref a) := ((Value.ref I, v) : Value × Value) | return
   let o ← load r
   match o.cls, o.data with
   | .type n, .fields vs =>
    if ["enumerate", "zip", "dict_itemiterator", "dict_reverseitemiterator", "odict_iterator", "itertools.zip_longest", "itertools.pairwise"].contains n && vs[0]? == some (rawInt a) then
     rule "for.unpacks-the-owned-tuple"
     updateField r 0 .none
   | _, _ => pure ()) Q E s := by
  cases v <;> try exact wpAny_pure hQ
  refine wpAny_bind (wpAny_load ho ?_);rw [hc, hd];dsimp only;rw [hT, Bool.false_and, if_neg (by decide)];exact wpAny_pure hQ
 unfold letOwnedTupleGo
 cases tgt <;> first | exact wpAny_pure hQ | exact go
noncomputable def NX (B : Heap) (ρ : List Addr) (s : Shared) (X : Addr → Prop) (s₂ : Shared) : Prop :=
 (∃ h' tk, s₂ = { s with heap := h', toks := tk }) ∧ (∀ b o, ¬ X b → s.heap.get? b = some o → s₂.heap.get? b = some o) ∧ (∀ a, X a → ∃ o, s₂.heap.get? a = some o ∧ immO o = false)
theorem enum_at {ds0 : List D} {k : Nat} {d : D} (h : (enumOf ds0)[k]? = some d) : ∃ d0, ds0[k]? = some d0 ∧ d = .tup [.int (k : Int), d0] := by
 unfold enumOf at h;rw [List.getElem?_map, List.getElem?_zipIdx] at h
 cases hz : ds0[k]? with
 | none => rw [hz] at h; exact nn h
 | some d0 => rw [hz] at h; simp at h; exact ⟨d0, rfl, h.symm⟩
theorem still_list {i : Nat} {ds : List D} (h : still (some i) ds H = true) : listAt H i = some ds := by
 unfold still at h;simpa using h
theorem NX.same {h' : Heap} {tk : Nat} {I : Addr} {o : Obj} (hs : Heap.SameBut I s.heap h') (ho : h'.get? I = some o) (hi : immO o = false) : NX B ρ s (· = I) { s with heap := h', toks := tk } :=
 ⟨⟨h', tk, rfl⟩, fun b o hb e => (hs.2 b hb).trans e, fun a ha => by cases ha; exact ⟨o, ho, hi⟩⟩
theorem immO_iter {o : Obj} {T : String} (hc : o.cls = .type T) (hd : ∃ vs, o.data = .fields vs) (h1 : (Value.type T == .type "range" || Value.type T == .type "dict_items") = false) : immO o = false := by
 revert hd;intro zh1;refine el11 zh1 fun vs hd => ?_;clear zh1;unfold immO;rw [hd, hc];exact h1
theorem Prv.imX {h h' : Heap} (P : Prv B ρ h X) (hk : ∀ b o, ¬ X b → h.get? b = some o → h'.get? b = some o) : Imm h h' := fun b o e hi => hk b o (fun hx => by rw [P.off.imm _ _ hx e] at hi; cases hi) e
theorem NX.imm {s₂ : Shared} (N : NX B ρ s X s₂) (P : Prv B ρ s.heap X) : Imm s.heap s₂.heap := P.imX N.2.1
set_option tactic.hygienic true in
theorem Itr.next {ds : List D} {k : Nat} {chk : AH → Bool} {Iv : Value} {tgt : Expr} {d : D} {z : Bool} (W : WR prog w B ρ H s.heap) (it : Itr B ρ s.heap ds k chk Iv X z) (P : Prv B ρ s.heap X) (hc : chk H = true) (ht : z = true → isTup tgt = true)
  (hk : ds[k]? = some d) : wpAny (model prog w) A (pyNext Iv) (fun r s₁ => ∃ v, r = some v ∧ wpAny (model prog w) A (letOwnedTupleGo tgt Iv v) (fun _ s₂ => NX B ρ s X s₂ ∧ V B ρ s₂.heap v d ∧ Itr B ρ s₂.heap ds (k + 1) chk Iv X z) F0 s₁) F0 s := by
 cases it with
 | tup h1 h2 hv =>
  rename_i I ax vs n;refine el12 (hv.get hk) fun x e1 xv => ?_;refine wpAny_pyNext_tuple_item h1 ⟨_, h2, rfl, _, rfl⟩ (by simpa using e1) fun h' q1 q2 => ⟨x, rfl, ?_⟩
  have hne : ax ≠ I := by
   rintro rfl
   have := P.off.imm _ _ rfl h2;simp [immO] at this
  refine el13 q1 fun o o1 o2 o3 => ?_;clear q1;have N := NX.same (B := B) (ρ := ρ) (tk := s.toks) q2 o1 (immO_iter o2 ⟨_, o3⟩ (by decide));have im := N.imm P;exact go_plain o1 o2 o3 (by decide) ⟨N, xv.mono0 im, .tup ⟨o, o1, o2, o3⟩ (im _ _ h2 rfl) (hv.mono0 im)⟩
 | fl h1 h2 hv =>
  rename_i I ax vs n;refine el12 (hv.get hk) fun x e1 xv => ?_;have h2' := W.base _ _ h2;refine wpAny_pyNext_list_item h1 ⟨_, h2', rfl, _, rfl⟩ (by simpa using e1) fun h' q1 q2 => ⟨x, rfl, ?_⟩;refine el13 q1 fun o o1 o2 o3 => ?_;clear q1;have N := NX.same (B := B) (ρ := ρ) (tk := s.toks) q2 o1 (immO_iter o2 ⟨_, o3⟩ (by decide));have im := N.imm P;exact go_plain o1 o2 o3 (by decide) ⟨N, xv.mono0 im, .fl ⟨o, o1, o2, o3⟩ h2 (hv.mono0 im)⟩
 | list h1 hi =>
  rename_i I ax i;refine el12 (W.list (still_list hc) hi) fun vs hp hv => ?_;refine el12 (hv.get hk) fun x e1 xv => ?_;refine wpAny_pyNext_list_item h1 hp.isList (by simpa using e1) fun h' q1 q2 => ⟨x, rfl, ?_⟩;refine el13 q1 fun o o1 o2 o3 => ?_;clear q1;have N := NX.same (B := B) (ρ := ρ) (tk := s.toks) q2 o1 (immO_iter o2 ⟨_, o3⟩ (by decide));have im := N.imm P;exact go_plain o1 o2 o3 (by decide) ⟨N, xv.mono0 im, .list ⟨o, o1, o2, o3⟩ hi⟩
 | rng hds h1 =>
  rename_i I a m
  have hlt : k < m := by
   have := (List.getElem?_eq_some_iff.mp hk).1;rw [hds, List.length_map, List.length_range] at this; exact this
  have hd : d = .int (a + (k : Int)) := by
   rw [hds, List.getElem?_map, List.getElem?_range hlt] at hk;simpa using hk.symm
  refine wpAny_pyNext_range_item h1 (by exact ln1 179810455040561 1472041 [_,_] [] hlt) fun h' q1 q2 => ⟨_, rfl, ?_⟩;have im : Imm s.heap h' := fun b o e hi => (q2.2 b (fun e' => by subst e'; rw [P.off.imm _ _ rfl e] at hi; cases hi)).trans e;refine go_plain q1 rfl rfl (by decide) ⟨NX.same (tk := s.toks + 1) q2 q1 (immO_iter rfl ⟨_, rfl⟩ (by decide)), by rw [hd]; exact .int _ _, .rng hds ?_⟩
  have e1 : a + ((k + 1 : Nat) : Int) = a + (k : Int) + 1 := by push_cast; exact Int.le_antisymm (ln0 28347697033434955915456321 [_] [_]) (ln0 28357544420366095811776321 [_] [_])
  have e2 : (m : Int) - ((k + 1 : Nat) : Int) = (m : Int) - (k : Int) - 1 := by push_cast; exact Int.le_antisymm (ln0 45399265598075157878218334401 [_,_] []) (ln0 45415020746076435474173534401 [_,_] [])
  rw [e1, e2]; exact q1
 | enm hds h1 h2 hi hne =>
  rename_i e it ax i ds0 old;refine el12 (W.list (still_list hc) hi) fun vs hp hv => ?_;refine el12 (enum_at (hds ▸ hk)) fun d0 hd0 zr1 => ?_;subst zr1;refine el12 (hv.get hd0) fun x e1 xv => ?_;refine wpAny_pyNext_enum_item h1 h2 hp.isList (by simpa using e1) hne fun h' q1 q2 q3 q4 q5 => ⟨_, rfl, ?_⟩;have tT := ht rfl
  cases tgt with
  | Tuple elts x1 pos =>
   refine wpAny_letOwnedTupleGo_enum q1 fun h2' r1 r2 => ?_;have heS : s.heap.objs.size ≠ e := Nat.ne_of_gt (Heap.lt_size h1);have hk' : ∀ b o, ¬ (b = e ∨ b = it) → s.heap.get? b = some o → h2'.get? b = some o := fun b o hb he => (r2.2 b (fun e' => hb (.inl e'))).trans (q5 b o (fun e' => hb (.inl e')) (fun e' => hb (.inr e')) he);have im : Imm s.heap h2' := P.imX hk';refine el13 q2 fun o o1 o2 o3 => ?_;clear q2;have o1' : h2'.get? it = some o := (r2.2 it (Ne.symm hne)).trans o1;refine in03 ⟨⟨h2', s.toks + 1, rfl⟩, hk', fun a ha => ?_⟩ (.tup ((r2.2 _ heS).trans q3) (.cons (.int _ _) (.cons (xv.mono0 im) .nil))) (.enm hds (by simpa using r1) ⟨o, o1', o2, o3⟩ hi hne);rcases ha with rfl | rfl
   ·exact in12 _ r1 (immO_iter rfl ⟨_, rfl⟩ (by decide))
   ·exact in12 o o1' (immO_iter o2 ⟨_, o3⟩ (by decide))
  | _ => exact ff tT
theorem Itr.done {ds : List D} {chk : AH → Bool} {Iv : Value} {z : Bool} (a0 : A.handled = none) (W : WR prog w B ρ H s.heap) (it : Itr B ρ s.heap ds ds.length chk Iv X z) (hc : chk H = true) :
  wpAny (model prog w) A (pyNext Iv) (fun r s₁ => r = none ∧ (∃ h' tk, s₁ = { s with heap := h', toks := tk }) ∧ ∀ b o, ¬ X b → s.heap.get? b = some o → s₁.heap.get? b = some o) F0 s := by
 cases it with
 | tup h1 h2 hv =>
  have hl := hv.length;exact wpAny_pyNext_tuple_end a0 h1 ⟨_, h2, rfl, _, rfl⟩ (by simp at hl; simp [hl]) fun h' q => ⟨rfl, ⟨h', s.toks, rfl⟩, fun b o hb e => q b o hb e⟩
 | fl h1 h2 hv =>
  have hl := hv.length;exact wpAny_pyNext_list_end a0 h1 ⟨_, W.base _ _ h2, rfl, _, rfl⟩ (by simp at hl; simp [hl]) fun h' q => ⟨rfl, ⟨h', s.toks, rfl⟩, fun b o hb e => q b o hb e⟩
 | list h1 hi =>
  refine el12 (W.list (still_list hc) hi) fun vs hp hv => ?_;have hl := hv.length;exact wpAny_pyNext_list_end a0 h1 hp.isList (by simp at hl; simp [hl]) fun h' q => ⟨rfl, ⟨h', s.toks, rfl⟩, fun b o hb e => q b o hb e⟩
 | rng hds h1 =>
  exact wpAny_pyNext_range_end a0 h1 (by rw [hds]; simp) fun h' q => ⟨rfl, ⟨h', s.toks, rfl⟩, fun b o hb e => q b o hb e⟩
 | enm hds h1 h2 hi hne =>
  refine el12 (W.list (still_list hc) hi) fun vs hp hv => ?_;have hl := hv.length;refine wpAny_pyNext_enum_end a0 h1 h2 hp.isList (by rw [hds]; simp [enumOf]; simp at hl; simp [hl]) fun h' q => ⟨rfl, ⟨h', s.toks, rfl⟩, fun b o hb e => q b o (fun e' => hb (.inr e')) e⟩
end
end Mine
end

-- S
section
namespace Mine
section
variable {prog : Program} {w : World} {B : Heap} {ge : GE} {K : Frag} {ρ ρ' ρ₁ : List Addr} {H : AH} {env : Env} {nm : Nms} {loc : Loc} {s s' s₁ s₂ : Shared} {A : Around} {p : Ev} {n : Nat} {X Y Z : Addr → Prop}
theorem Run.plus {h' : Heap} {tk : Nat} (R : Run ρ Z s ρ₁ s₁) (hk : ∀ b o, ¬ X b → s₁.heap.get? b = some o → h'.get? b = some o) (hx : ∀ a, X a → s.heap.get? a = none) (hρ : ∀ a, X a → a ∉ ρ) : Run ρ Z s ρ₁ { s₁ with heap := h', toks := tk } := by
 obtain ⟨⟨h1, t1, rfl⟩, e, k, l⟩ := R;refine ⟨⟨h', tk, rfl⟩, e, fun b o hb hz eo => ?_, fun b o eo => ?_⟩
 ·exact hk b o (fun hx' => by rw [hx b hx'] at eo; cases eo) (k b o hb hz eo)
 ·refine el11 (l b o eo) fun o' e' => ?_;exact ⟨o', hk b o' (fun hx' => by rw [hx b hx'] at eo; cases eo) e'⟩
theorem Run.fresh (R : Run ρ Z s ρ₁ s₁) (h : ∀ a, Z a → Y a ∨ s.heap.get? a = none) : Run ρ Y s ρ₁ s₁ :=
 ⟨R.sh, R.ext, fun b o hb hy e => R.kp b o hb (fun hz => (h b hz).elim hy fun e' => by rw [e'] at e; cases e) e, R.lv⟩
theorem FR.stepX {h h' : Heap} (F : FR B ρ h env nm loc) (im : Imm h h') (hns : ∀ o, h.get? env.locals = some o → h'.get? env.locals = some o)
  (hcs : ∀ x a o, cellish (nm.lookup x) = true → env.cells.lookup x = some a → h.get? a = some o → h'.get? a = some o) : FR B ρ h' env nm loc := by
 refine ⟨F.kind, F.gl, F.bu, F.kn, F.kc, ?_, F.lρ, F.lB, fun x hx => ?_, F.inj⟩
 ·refine el12 (F.ns) fun m zq1 hv => ?_;refine el32 zq1 fun o es ep e r => ?_;clear zq1;refine in12 m ⟨o, es, ep, hns _ e, r⟩ (fun x d hx hd => ?_);refine el12 (hv x d hx hd) fun v e hv => ?_;exact in12 v e (hv.mono0 im)
 ·refine el25 (F.cells x hx) fun a ov e1 zq1 e3 e4 e5 => ?_;refine el12 zq1 fun o ho hd => ?_;clear zq1;refine in25 a ov e1 ⟨o, hcs _ _ _ hx e1 ho, hd⟩ e3 e4 (fun d hd => ?_);refine el12 (e5 d hd) fun v e hv => ?_;exact in12 v e (hv.mono0 im)
noncomputable def Apart (env : Env) (nm : Nms) (a : Addr) : Prop := a ≠ env.locals ∧ ∀ x c, cellish (nm.lookup x) = true → env.cells.lookup x = some c → a ≠ c
theorem FR.apart {h : Heap} (F : FR B ρ h env nm loc) {a : Addr} (e : h.get? a = none) : Apart env nm a := by
 refine ⟨?_, fun x c hx hc => ?_⟩
 ·rintro rfl
  refine el12 (F.ns) fun m zq1 hv => ?_;refine el32 zq1 fun o es ep e' r => ?_;clear zq1;rw [e] at e'; cases e'
 ·rintro rfl
  refine el23 (F.cells x hx) fun a' ov e1 zq1 O => ?_;refine el12 zq1 fun o ho hd => ?_;clear zq1;rw [hc] at e1; cases e1;rw [e] at ho; exact nn ho
theorem Apart.own {a : Addr} (h : Apart env nm a) : ¬ Own env nm a := by
 rintro (rfl | ⟨x, hx, hc⟩)
 ·exact h.1 rfl
 ·exact h.2 x a (by rw [hx]; rfl) hc rfl
theorem FR.but {h h' : Heap} (F : FR B ρ h env nm loc) (im : Imm h h') (hk : ∀ b o, ¬ X b → h.get? b = some o → h'.get? b = some o) (ha : ∀ a, X a → Apart env nm a) : FR B ρ h' env nm loc :=
 F.stepX im (fun o e => hk _ _ (fun hx => (ha _ hx).1 rfl) e) fun x a o hx hc e => hk _ _ (fun hx' => (ha _ hx').2 x a hx hc rfl) e
theorem AOk.h0 (a : AOk n A) : A.handled = none := a.hd
noncomputable def PI (B : Heap) (ρ : List Addr) (s : Shared) (ds : List D) (chk : AH → Bool) (z : Bool) (Iv : Value) (s₁ : Shared) : Prop :=
 ∃ X, (∀ a, X a → s.heap.get? a = none) ∧ (∀ b o, s.heap.get? b = some o → s₁.heap.get? b = some o) ∧ (∃ h' tk, s₁ = { s with heap := h', toks := tk }) ∧ Itr B ρ s₁.heap ds 0 chk Iv X z ∧ Prv B ρ s₁.heap X
theorem dead_ρ (W : WR prog w B ρ H s.heap) {a : Addr} (h : s.heap.get? a = none) : a ∉ ρ := fun hm => by
 refine el12 (W.mem hm) fun o e O => ?_;rw [h] at e; exact nn e
theorem dead_B (W : WR prog w B ρ H s.heap) {a : Addr} (h : s.heap.get? a = none) : B.get? a = none := by
 cases e : B.get? a with
 | none => rfl
 | some o => rw [W.base a o e] at h; cases h
theorem Prv.one (W : WR prog w B ρ H s.heap) {h' : Heap} {a : Addr} {o : Obj} (h : s.heap.get? a = none) (ho : h'.get? a = some o) (hi : immO o = false) : Prv B ρ h' (· = a) :=
 ⟨⟨fun b hb => by cases hb; exact dead_ρ W h, fun b hb => by cases hb; exact dead_B W h, fun b o' hb e => by cases hb; rw [ho] at e; revert o'; refine sm1 ?_; exact hi⟩, fun b hb => by cases hb; exact ⟨o, ho⟩⟩
set_option tactic.hygienic true in
theorem s_iter {v : Value} {d : D} {ds : List D} {o : Option Nat} (W : WR prog w B ρ H s.heap) (e : src H d = some (ds, o)) (x : V B ρ s.heap v d) :
  wpAny (model prog w) A (pyIter v) (fun it s₁ => PI B ρ s ds (still o ds) false it s₁) F0 s ∧ still o ds H = true := by
 unfold src at e
 split at e
 ·cases e;refine V.elim x fun _ _ _ ho hv zq => ?_;clear x;subst zq;rename_i a vs n;refine ⟨wpAny_pyIter_tuple ⟨_, ho, rfl, _, rfl⟩ ?_, rfl⟩;have hp := Heap.get?_push_size s.heap (o := { cls := .type "tuple_iterator", data := .fields #[.ref a, .int 0 0] }) rfl;have hk : ∀ b o, s.heap.get? b = some o → (s.heap.push { cls := .type "tuple_iterator", data := .fields #[.ref a, .int 0 0] }).get? b = some o := fun b o e => Heap.get?_push_of_some _ e;exact in15 _ (fun b hb => by cases hb; exact fresh_size _) hk ⟨_, s.toks, rfl⟩ (.tup ⟨_, hp, rfl, rfl⟩ (hk _ _ ho) (hv.mono0 fun b o e _ => hk b o e)) (Prv.one W (fresh_size _) hp (immO_iter rfl ⟨_, rfl⟩ (by decide)))
 ·cases e;refine V.elim x fun _ _ _ ho hv zq => ?_;clear x;subst zq;rename_i a vs n;refine ⟨wpAny_pyIter_list ⟨_, W.base _ _ ho, rfl, _, rfl⟩ ?_, rfl⟩;have hp := Heap.get?_push_size s.heap (o := { cls := .type "list_iterator", data := .fields #[.ref a, .int 0 0] }) rfl;have hk : ∀ b o, s.heap.get? b = some o → (s.heap.push { cls := .type "list_iterator", data := .fields #[.ref a, .int 0 0] }).get? b = some o := fun b o e => Heap.get?_push_of_some _ e;exact in15 _ (fun b hb => by cases hb; exact fresh_size _) hk ⟨_, s.toks, rfl⟩ (.fl ⟨_, hp, rfl, rfl⟩ ho (hv.mono0 fun b o e _ => hk b o e)) (Prv.one W (fresh_size _) hp (immO_iter rfl ⟨_, rfl⟩ (by decide)))
 ·rename_i a b;revert e;refine ifs fun hc e => ?_
  ·simp only [Bool.and_eq_true, decide_eq_true_eq] at hc;cases e;refine V.elim x fun _ _ _ _ ho zq => ?_;clear x;subst zq;have sm : Builtin.Range.small a b 1 = true := PySem.small_one (Int.le_trans (by decide) hc.1.1.1) (Int.lt_of_le_of_lt hc.1.1.2 (by decide)) (Int.le_trans (by decide) hc.1.2) (Int.lt_of_le_of_lt hc.2 (by decide));refine ⟨wpAny_pyIter_range ho sm ?_, rfl⟩;rw [rangeSize_nat];have hp := Heap.get?_push_size s.heap (o := { cls := .type "range_iterator", data := .fields #[rawInt a, rawInt ((b - a).toNat : Int), rawInt 1] }) rfl;have hk : ∀ c o, s.heap.get? c = some o → (s.heap.push { cls := .type "range_iterator", data := .fields #[rawInt a, rawInt ((b - a).toNat : Int), rawInt 1] }).get? c = some o := fun b o e => Heap.get?_push_of_some _ e;refine in15 _ (fun b hb => by cases hb; exact fresh_size _) hk ⟨_, s.toks, rfl⟩ (.rng rfl ?_) (Prv.one W (fresh_size _) hp (immO_iter rfl ⟨_, rfl⟩ (by decide)));simpa using hp
 ·rename_i i;simp only [Option.map_eq_some_iff] at e;refine el12 e fun ds' hl he => ?_;clear e;cases he;refine V.elim x fun _ hi zq => ?_;clear x;subst zq;rename_i a;refine el12 (W.list hl hi) fun vs hp0 hv => ?_;refine ⟨wpAny_pyIter_list hp0.isList ?_, by simp [still, hl]⟩;have hp := Heap.get?_push_size s.heap (o := { cls := .type "list_iterator", data := .fields #[.ref a, .int 0 0] }) rfl;have hk : ∀ b o, s.heap.get? b = some o → (s.heap.push { cls := .type "list_iterator", data := .fields #[.ref a, .int 0 0] }).get? b = some o := fun b o e => Heap.get?_push_of_some _ e;exact in15 _ (fun b hb => by cases hb; exact fresh_size _) hk ⟨_, s.toks, rfl⟩ (.list ⟨_, hp, rfl, rfl⟩ hi) (Prv.one W (fresh_size _) hp (immO_iter rfl ⟨_, rfl⟩ (by decide)))
 ·exact nn e
theorem PS.after {fl : Flw} {loc' loc₁ : Loc} {H' : AH} {f : Flow} (R : Run ρ (Own env nm) s ρ₁ s₁) (x : PS prog w B ρ₁ s₁ env nm fl loc' H' f s') : PS prog w B ρ s env nm fl loc' H' f s' := by
 refine el14 x fun ρ' R' W' F' q => ?_;clear x;exact in14 (ρ') (R.trans R') W' F' q
theorem s_sts (S : SSt prog w B p n) (a0 : AOk n A) : ∀ {b : List Stmt} {loc : Loc} {H : AH} {fl : Flw} {loc' : Loc} {H' : AH} {s : Shared} {ρ : List Addr}, stsL (p.st nm) b loc H = some (fl, loc', H') → WR prog w B ρ H s.heap → FR B ρ s.heap env nm loc →
  wpAny (model prog w) A (execs b env) (PS prog w B ρ s env nm fl loc' H') F0 s
 | [], loc, H, fl, loc', H', s, ρ, e, W, F => by
  revert fl loc' H';refine sm3 ?_;exact wpAny_execs_nil ⟨ρ, Run.refl .., W, F, .next⟩
 | st :: r, loc, H, fl, loc', H', s, ρ, e, W, F => by
  unfold stsL at e;refine wpAny_execs_cons ?_
  cases h : p.st nm st loc H with
  | none => rw [h] at e; exact nn e
  | some q =>
   obtain ⟨fl1, loc1, H1⟩ := q;rw [h] at e;refine any0 (S _ _ _ _ _ _ _ h A s ρ env a0 W F) fun f s₁ h1 => ?_;refine el14 h1 fun ρ₁ R₁ W₁ F₁ q => ?_;clear h1
   cases q with
   | next => exact any0 (s_sts S a0 e W₁ F₁) fun O O h => PS.after (loc₁ := loc1) R₁ h
   | ret x => revert fl loc' H'; refine sm3 ?_; exact ⟨ρ₁, R₁, W₁, F₁, .ret x⟩
end
end Mine
end

-- T
section
namespace Mine
section
variable {prog : Program} {w : World} {B : Heap} {ge : GE} {K : Frag} {ρ ρ' ρ₁ : List Addr} {H : AH} {env : Env} {nm : Nms} {loc : Loc} {s s' s₁ s₂ : Shared} {A : Around} {p : Ev} {n : Nat} {X Y Z : Addr → Prop}
theorem NX.prv {s₂ : Shared} (N : NX B ρ s X s₂) (P : Prv B ρ s.heap X) : Prv B ρ s₂.heap X :=
 ⟨⟨P.off.ρ, P.off.base, fun a o ha e => by obtain ⟨o', e', hi⟩ := N.2.2 a ha; rw [e] at e'; cases e'; exact hi⟩, fun a ha => by obtain ⟨o', e', hi⟩ := N.2.2 a ha; exact ⟨o', e'⟩⟩
inductive LoopI (prog : Program) (w : World) (B : Heap) (env : Env) (nm : Nms) (p : Ev) (X : Addr → Prop) (t : Expr) (b : List Stmt) (ds : List D) (chk : AH → Bool) (z : Bool) (Iv : Value) (fl : Flw) (loc' : Loc) (H' : AH) (s0 : Shared) (ρ0 : List Addr) (m : Nat) (s₁ : Shared) : Prop
 | mk (k : Nat) (ρ₁ : List Addr) (loc1 : Loc) (H1 : AH) (hm : m = ds.length - k) (hk : k ≤ ds.length) (e1 : loop chk (lstep p nm t b) (ds.drop k) loc1 H1 = some (fl, loc', H')) (c1 : chk H1 = true) (R1 : Run ρ0 (fun a => Own env nm a ∨ s0.heap.get? a = none) s0 ρ₁ s₁)
  (W1 : WR prog w B ρ₁ H1 s₁.heap) (F1 : FR B ρ₁ s₁.heap env nm loc1) (it1 : Itr B ρ₁ s₁.heap ds k chk Iv X z) (P1 : Prv B ρ₁ s₁.heap X) : LoopI prog w B env nm p X t b ds chk z Iv fl loc' H' s0 ρ0 m s₁
theorem s_loop {t : Expr} {b : List Stmt} {ds : List D} {chk : AH → Bool} {z : Bool} {Iv : Value} {fl : Flw} {loc' : Loc} {H' : AH} {s0 : Shared} (S : SSt prog w B p n) (a0 : AOk n A) (hz : z = true → isTup t = true)
  (e : loop chk (lstep p nm t b) ds loc H = some (fl, loc', H')) (hc : chk H = true) (W : WR prog w B ρ H s.heap) (F : FR B ρ s.heap env nm loc) (it : Itr B ρ s.heap ds 0 chk Iv X z) (P : Prv B ρ s.heap X)
  (hX : ∀ a, X a → s0.heap.get? a = none) (hA : ∀ a, X a → Apart env nm a) (ρ0 : List Addr) (R0 : Run ρ0 (fun a => Own env nm a ∨ s0.heap.get? a = none) s0 ρ s) (hρ : ∀ a, s0.heap.get? a = none → a ∉ ρ0) :
  codeAny (model prog w) A (.forLoop t Iv b [] env) (fun r s' => match r with | .ok f => PS prog w B ρ0 s0 env nm fl loc' H' f s' | .error e => cameBackBy (model prog w) A env F0 e s') s := by
 refine codeAny_forLoop_any (LoopI prog w B env nm p X t b ds chk z Iv fl loc' H' s0 ρ0) ?_ ds.length ⟨0, ρ, loc, H, rfl, Nat.zero_le _, by simpa using e, hc, R0, W, F, it, P⟩
 rintro m s₁ ⟨k, ρ₁, loc1, H1, rfl, hk, e1, c1, R1, W1, F1, it1, P1⟩
 by_cases hlt : k < ds.length
 ·have hd : ds.drop k = ds[k] :: ds.drop (k + 1) := List.drop_eq_getElem_cons hlt;rw [hd] at e1;unfold loop at e1;refine any0 (it1.next (tgt := t) W1 P1 c1 hz (List.getElem?_eq_getElem hlt)) fun r s₂ h => ?_;revert h;intro zh2;refine el12 zh2 fun v zr1 h => ?_;clear zh2;subst zr1;refine any0 h fun O s₃ h => ?_;refine el03 h fun N V3 it3 => ?_;clear h;have im3 := N.imm P1;have P3 := N.prv P1;have W3 : WR prog w B ρ₁ H1 s₃.heap := W1.step P1.off N.2.1;have F3 := F1.but im3 N.2.1 hA
  have R3 : Run ρ0 (fun a => Own env nm a ∨ s0.heap.get? a = none) s0 ρ₁ s₃ := by
   refine el03 N fun zq1 hkp O => ?_;clear N;refine el21 zq1 fun h' tk zr2 => ?_;clear zq1;subst zr2;exact R1.plus hkp hX fun a ha => hρ a (hX a ha)
  cases hb : bindT nm t ds[k] loc1 with
  | none => simp only [lstep, hb] at e1; exact nn e1
  | some loc2 =>
   simp only [lstep, hb] at e1;refine any0 (s_bindT a0.h0 hb W3 F3 V3) fun O s₄ h => ?_;refine el03 h fun R4 W4 F4 => ?_;clear h
   cases hs : stsL (p.st nm) b loc2 H1 with
   | none => rw [hs] at e1; exact nn e1
   | some q =>
    obtain ⟨fl5, loc5, H5⟩ := q;rw [hs] at e1;refine any0 (s_sts S a0 hs W4 F4) fun f s₅ h => ?_;refine el14 h fun ρ₅ R5 W5 F5 q => ?_;clear h;have R35 := R4.trans R5;have hXo : ∀ a, X a → ¬ Own env nm a := fun a ha => (hA a ha).own;have im5 : Imm s₃.heap s₅.heap := R35.immX W3 F3.off;have RR := R3.trans (R35.mono fun a ha => Or.inl ha)
    cases q with
    | next =>
     dsimp only at e1 ⊢;revert e1;refine ifs fun c5 e1 => ?_
     ·exact in12 (ds.length - (k + 1)) (by exact ln2 1473601 2568707241 157845097859201 [_,_,_,_] [] (Nat.sub_add_cancel (ln1 1409601 1473601 [_,_] [] hlt)) (Nat.sub_add_cancel (ln1 90255446401 1473601 [_,_] [] hlt))) ⟨k + 1, ρ₅, loc5, H5, rfl, hlt, e1, c5, RR, W5, F5, it3.run P3 R35 im5 hXo, P3.run R35 hXo⟩
    | ret x =>
     dsimp only at e1 ⊢;cases e1;exact in14 (ρ₅) (RR.fresh fun a ha => ha) W5 F5 (.ret x)
 ·have hk' : k = ds.length := by exact Nat.le_antisymm (ln1 1409601 1409601 [_,_] [] hk) (ln1 1409601 1409601 [_,_] [] (Nat.le_of_not_lt hlt))
  subst hk';rw [List.drop_length] at e1;cases e1;refine any0 (it1.done a0.h0 W1 c1) fun r s₂ h => ?_;refine el03 h fun zr1 zq2 hkp => ?_;clear h;subst zr1;refine el21 zq2 fun h' tk zr3 => ?_;clear zq2;subst zr3;refine wpAny_execs_nil ?_;have im : Imm s₁.heap h' := P1.imX hkp;exact in14 (ρ₁) ((R1.plus hkp hX fun a ha => hρ a (hX a ha)).fresh fun a ha => ha) (W1.step P1.off hkp) (F1.but im hkp hA) .next
theorem s_while {t : Expr} {b : List Stmt} (S : Snd prog w B p n) (a0 : AOk n A) {fl : Flw} {loc' : Loc} {H' : AH} {m : Nat}
  (e : wloop (fun loc H => p.tr nm loc t H) (fun loc H => stsL (p.st nm) b loc H) m loc H = some (fl, loc', H')) (W : WR prog w B ρ H s.heap) (F : FR B ρ s.heap env nm loc) :
  codeAny (model prog w) A (.whileLoop t b [] env) (fun r s' => match r with | .ok f => PS prog w B ρ s env nm fl loc' H' f s' | .error e => cameBackBy (model prog w) A env F0 e s') s := by
 refine codeAny_whileLoop (fun m s₁ => ∃ ρ₁ loc1 H1, wloop (fun loc H => p.tr nm loc t H) (fun loc H => stsL (p.st nm) b loc H) m loc1 H1 = some (fl, loc', H') ∧ Run ρ (Own env nm) s ρ₁ s₁ ∧ WR prog w B ρ₁ H1 s₁.heap ∧ FR B ρ₁ s₁.heap env nm loc1) ?_ m ⟨ρ, loc, H, e, Run.refl .., W, F⟩;intro m s₁ zi1;refine el34 zi1 fun ρ₁ loc1 H1 e1 R1 W1 F1 => ?_;clear zi1
 cases m with
 | zero => exact nn e1
 | succ m =>
  unfold wloop at e1
  cases ht : p.tr nm loc1 t H1 with
  | none => rw [ht] at e1; exact nn e1
  | some q =>
   obtain ⟨c, H2⟩ := q;rw [ht] at e1;refine PT.use (S.tr _ _ _ _ _ _ ht A s₁ ρ₁ env a0 W1 F1) fun ρ₂ s₂ R2 W2 => ?_;have F2 := F1.run W1 R2;have R12 := R1.trans (R2.mono fun a ha => ha.elim)
   cases c with
   | false =>
    cases e1;exact wpAny_execs_nil ⟨ρ₂, R12, W2, F2, .next⟩
   | true =>
    dsimp only at e1
    cases hs : stsL (p.st nm) b loc1 H2 with
    | none => rw [hs] at e1; exact nn e1
    | some q =>
     obtain ⟨fl5, loc5, H5⟩ := q;rw [hs] at e1;refine any0 (s_sts S.st a0 hs W2 F2) fun f s₅ h => ?_;refine el14 h fun ρ₅ R5 W5 F5 q => ?_;clear h
     cases q with
     | next => exact ⟨m, Nat.lt_succ_self m, ρ₅, loc5, H5, e1, R12.trans R5, W5, F5⟩
     | ret x => cases e1; exact ⟨ρ₅, R12.trans R5, W5, F5, .ret x⟩
end
end Mine
end

-- U
section
namespace Mine
section
variable {prog : Program} {w : World} {B : Heap} {ge : GE} {K : Frag} {ρ ρ' ρ₁ : List Addr} {H : AH} {env : Env} {nm : Nms} {loc : Loc} {s s' s₁ s₂ : Shared} {A : Around} {p : Ev} {n : Nat} {X Y Z : Addr → Prop}
noncomputable def closOf (env : Env) : List (Str × NameKind) → List (Str × Addr) → List (Str × Addr)
 | [], acc => acc
 | (x, k) :: r, acc => if k == .free then closOf env r ((x, (env.cells.lookup x).getD 0) :: acc) else closOf env r acc
set_option tactic.hygienic true in
theorem forIn_clos (f : Str × NameKind → List (Str × Addr) → Sem (ForInStep (List (Str × Addr))))
  (hf : ∀ x k cs, f (x, k) cs = if k == .free then (do let a ← cellOf env x; pure (.yield ((x, a) :: cs))) else pure (.yield cs)) :
  ∀ (names : List (Str × NameKind)) (acc : List (Str × Addr)), (∀ x ∈ names, x.2 = .free → (env.cells.lookup x.1).isSome = true) → forIn names acc f = pure (closOf env names acc)
 | [], acc, _ => by rw [List.forIn_nil]; rfl
 | (x, k) :: r, acc, h => by
  have ih := fun acc => forIn_clos f hf r acc fun y hy => h y (List.mem_cons_of_mem _ hy);rw [List.forIn_cons, hf];unfold closOf
  split
  ·rename_i hk;refine el11 (Option.isSome_iff_exists.mp (h (x, k) List.mem_cons_self (by simpa using hk))) fun a ha => ?_
   have : cellOf env x = pure a := by unfold cellOf; simp only at ha; rw [ha]
   rw [this, pure_bind, pure_bind];simp only at ha;rw [ha];exact ih _
  ·rw [pure_bind]; exact ih _
theorem closureFor_eq {sc : Scope} (h : ∀ x ∈ sc.names, x.2 = .free → (env.cells.lookup x.1).isSome = true) : closureFor sc env = pure (closOf env sc.names []) := by
 simp only [closureFor]
 rw [forIn_clos (env := env) _ (fun x k cs => by cases hk : k == NameKind.free <;> simp [hk]) sc.names [] h]
 rfl
set_option tactic.hygienic true in
theorem closOf_mem : ∀ {names : List (Str × NameKind)} {acc : List (Str × Addr)} {x : Str} {a : Addr}, (x, a) ∈ closOf env names acc → (x, a) ∈ acc ∨ ((x, .free) ∈ names ∧ a = (env.cells.lookup x).getD 0)
 | [], _, _, _, h => .inl h
 | (y, k) :: r, acc, x, a, h => by
  unfold closOf at h
  split at h
  ·rename_i hk
   have hk' : k = .free := by simpa using hk
   subst hk';rcases closOf_mem h with h | ⟨h, e⟩
   ·rcases List.mem_cons.mp h with e | h
    ·cases e; exact .inr ⟨List.mem_cons_self, rfl⟩
    ·exact .inl h
   ·exact .inr ⟨List.mem_cons_of_mem _ h, e⟩
  ·rcases closOf_mem h with h | ⟨h, e⟩
   ·exact .inl h
   ·exact .inr ⟨List.mem_cons_of_mem _ h, e⟩
set_option tactic.hygienic true in
theorem closOf_some : ∀ {names : List (Str × NameKind)} {acc : List (Str × Addr)} {x : Str}, ((x, .free) ∈ names ∨ (acc.lookup x).isSome = true) → ((closOf env names acc).lookup x).isSome = true
 | [], _, _, h => by rcases h with h | h <;> first | exact h | cases h
 | (y, k) :: r, acc, x, h => by
  unfold closOf
  split
  ·rename_i hk;refine closOf_some ?_;rcases h with h | h
   ·rcases List.mem_cons.mp h with e | h
    ·cases e; exact .inr (by simp [List.lookup_cons])
    ·exact .inl h
   ·refine .inr ?_;rw [List.lookup_cons]
    split
    ·rfl
    ·exact h
  ·rename_i hk;refine closOf_some ?_;rcases h with h | h
   ·rcases List.mem_cons.mp h with e | h
    ·cases e; exact absurd rfl hk
    ·exact .inl h
   ·exact .inr h
theorem cellsFrom_app : ∀ (names : List (Str × NameKind)) (n : Nat) (acc : List (Str × Addr)), cellsFrom n names acc = cellsFrom n names [] ++ acc
 | [], _, _ => rfl
 | (y, k) :: r, n, acc => by
  unfold cellsFrom
  split
  ·rw [cellsFrom_app r (n + 1) ((y, n) :: acc), cellsFrom_app r (n + 1) [(y, n)], List.append_assoc]; rfl
  ·exact cellsFrom_app r n acc
set_option tactic.hygienic true in
theorem cellsFrom_mem : ∀ {names : List (Str × NameKind)} {n : Nat} {acc : List (Str × Addr)} {x : Str} {a : Addr}, (x, a) ∈ cellsFrom n names acc → (x, a) ∈ acc ∨ (x, .cell) ∈ names
 | [], _, _, _, _, h => .inl h
 | (y, k) :: r, n, acc, x, a, h => by
  unfold cellsFrom at h
  split at h
  ·rename_i hk
   have hk' : k = .cell := by simpa using hk
   subst hk';rcases cellsFrom_mem h with h | h
   ·rcases List.mem_cons.mp h with e | h
    ·cases e; exact .inr List.mem_cons_self
    ·exact .inl h
   ·exact .inr (List.mem_cons_of_mem _ h)
  ·rcases cellsFrom_mem h with h | h
   ·exact .inl h
   ·exact .inr (List.mem_cons_of_mem _ h)
set_option tactic.hygienic true in
theorem cellsFrom_some : ∀ {names : List (Str × NameKind)} {n : Nat} {acc : List (Str × Addr)} {x : Str}, ((x, .cell) ∈ names ∨ (acc.lookup x).isSome = true) → ((cellsFrom n names acc).lookup x).isSome = true
 | [], _, _, _, h => by rcases h with h | h <;> first | exact h | cases h
 | (y, k) :: r, n, acc, x, h => by
  unfold cellsFrom
  split
  ·rename_i hk;refine cellsFrom_some ?_;rcases h with h | h
   ·rcases List.mem_cons.mp h with e | h
    ·cases e; exact .inr (by simp [List.lookup_cons])
    ·exact .inl h
   ·refine .inr ?_;rw [List.lookup_cons]
    split
    ·rfl
    ·exact h
  ·rename_i hk;refine cellsFrom_some ?_;rcases h with h | h
   ·rcases List.mem_cons.mp h with e | h
    ·cases e; exact absurd rfl hk
    ·exact .inl h
   ·exact .inr h
theorem mem_unique {α : Type} : ∀ {l : List (Str × α)} {x : Str} {a b : α}, (l.map (·.1)).Nodup → (x, a) ∈ l → (x, b) ∈ l → a = b
 | y :: r, x, a, b, hn, h1, h2 => by
  rw [List.map_cons, List.nodup_cons] at hn
  rcases List.mem_cons.mp h1 with e1 | h1 <;> rcases List.mem_cons.mp h2 with e2 | h2
  ·rw [← e1] at e2; cases e2; rfl
  ·exact absurd (List.mem_map.mpr ⟨_, h2, by rw [← e1]⟩) hn.1
  ·exact absurd (List.mem_map.mpr ⟨_, h1, by rw [← e2]⟩) hn.1
  ·exact mem_unique hn.2 h1 h2
theorem lookup_app {α : Type} : ∀ {l r : List (Str × α)} {x : Str}, (l ++ r).lookup x = (match l.lookup x with | some a => some a | none => r.lookup x)
 | [], r, x => rfl
 | (y, a) :: l, r, x => by
  rw [List.cons_append, List.lookup_cons, List.lookup_cons]
  split
  ·rfl
  ·exact lookup_app
theorem lookup_none_mem {α : Type} {l : List (Str × α)} {x : Str} (h : l.lookup x = none) (a : α) : (x, a) ∉ l := by
 intro hm;have := List.lookup_eq_none_iff.mp h _ hm;simp at this
theorem lookup_mem_nodup {α : Type} {l : List (Str × α)} {x : Str} {a : α} (hn : (l.map (·.1)).Nodup) (h : (x, a) ∈ l) : l.lookup x = some a := by
 cases e : l.lookup x with
 | none => exact absurd h (lookup_none_mem e a)
 | some b => rw [mem_unique hn (mem_of_lookup e) h]
theorem relabel_kcl : ∀ {names : List (Str × NameKind)} {x : Str}, kcl ((names.map fun (n, k) => if (k == NameKind.free && env.scope.kind == .function && env.kindOf n == some .cell) then (n, NameKind.cell) else (n, k)).lookup x) = kcl (names.lookup x) ∧
  (names.lookup x = some .cell → (names.map fun (n, k) => if (k == NameKind.free && env.scope.kind == .function && env.kindOf n == some .cell) then (n, NameKind.cell) else (n, k)).lookup x = some .cell)
 | [], _ => ⟨rfl, fun h => by simp at h⟩
 | (n, k) :: r, x => by
  have ih := @relabel_kcl r x
  show kcl (List.lookup x ((if (k == NameKind.free && env.scope.kind == .function && env.kindOf n == some .cell) = true then (n, NameKind.cell) else (n, k)) :: _)) = _ ∧
   (_ → List.lookup x ((if (k == NameKind.free && env.scope.kind == .function && env.kindOf n == some .cell) = true then (n, NameKind.cell) else (n, k)) :: _) = _)
  by_cases hc : (k == NameKind.free && env.scope.kind == .function && env.kindOf n == some .cell) = true
  ·rw [if_pos hc];simp only [Bool.and_eq_true, beq_iff_eq] at hc;have hk := hc.1.1;subst hk;simp only [List.lookup_cons]
   cases hx : x == n with
   | true => exact ⟨rfl, fun h => rfl⟩
   | false => exact ih
  ·rw [if_neg hc];simp only [List.lookup_cons]
   cases hx : x == n with
   | true => exact ⟨rfl, fun h => h⟩
   | false => exact ih
noncomputable abbrev cEnv (sc : Scope) (env : Env) (L : Addr) : Env :=
 { scope := relabel sc env, locals := L, globals := env.globals, cells := cellsFrom (L + 1) sc.names (closOf env sc.names []), qual := env.qual, func := none, code := env.code, frame := env.frame, builtins := env.builtins }
noncomputable abbrev cHeap (sc : Scope) (h : Heap) : Heap := pushCells (h.push { cls := .type "dict", data := .dict #[] }) sc.names
noncomputable abbrev cLoc (sc : Scope) (loc : Loc) : Loc := (sc.names.filter fun x => isOwn (some x.2)).map (fun x => (x.1, (none : Option D))) ++ loc
theorem scopeOk_spec {sc : Scope} (h : scopeOk nm sc = true) : sc.kind = .function ∧ (sc.names.map (·.1)).Nodup ∧ ∀ x, (x, .free) ∈ sc.names → cellish (nm.lookup x) = true := by
 unfold scopeOk at h;simp only [Bool.and_eq_true, decide_eq_true_eq, List.all_eq_true] at h;exact in03 h.1.1 h.1.2 (fun x hx => h.2 _ hx)
theorem cLoc_own {sc : Scope} {x : Str} {k : NameKind} (h : (x, k) ∈ sc.names) (hk : isOwn (some k) = true) : look (cLoc sc loc) x = none := by
 unfold look;rw [lookup_app]
 have : ∃ y, ((sc.names.filter fun x => isOwn (some x.2)).map (fun x => (x.1, (none : Option D)))).lookup x = some y := by
  cases e : ((sc.names.filter fun x => isOwn (some x.2)).map (fun x => (x.1, (none : Option D)))).lookup x with
  | some y => exact ⟨y, rfl⟩
  | none => exact absurd (List.mem_map.mpr ⟨_, List.mem_filter.mpr ⟨h, hk⟩, rfl⟩) (lookup_none_mem e none)
 refine el11 this fun y hy => ?_;clear this;rw [hy];have hy2 := mem_of_lookup hy;refine el12 (List.mem_map.mp hy2) fun z O hz => ?_;cases hz
 rfl
theorem cLoc_free {sc : Scope} {x : Str} {d : D} (h : look (cLoc sc loc) x = some d) : look loc x = some d := by
 unfold look at h;rw [lookup_app] at h
 cases e : ((sc.names.filter fun x => isOwn (some x.2)).map (fun x => (x.1, (none : Option D)))).lookup x with
 | none => rw [e] at h; exact h
 | some y =>
  rw [e] at h;refine el12 (List.mem_map.mp (mem_of_lookup e)) fun z O hz => ?_;cases hz;exact nn h
theorem FR.comp {h : Heap} {sc : Scope} (W : WR prog w B ρ H h) (F : FR B ρ h env nm loc) (hs : scopeOk nm sc = true) : FR B ρ (cHeap sc h) (cEnv sc env h.objs.size) sc.names (cLoc sc loc) := by
 refine el03 (scopeOk_spec hs) fun hk hn hf => ?_;have dead : h.get? h.objs.size = none := fresh_size h;have hsz : (h.push { cls := .type "dict", data := .dict #[] }).objs.size = h.objs.size + 1 := Heap.size_push ..;have keep0 : ∀ b o, h.get? b = some o → (cHeap sc h).get? b = some o := fun b o e => pushCells_keeps _ _ b o (Heap.get?_push_of_some _ e);have im : Imm h (cHeap sc h) := fun b o e O => keep0 b o e;have ok := cellsFrom_ok sc.names (h.push { cls := .type "dict", data := .dict #[] }) (h.objs.size + 1) [] ⟨fun O O hm => (nomatch hm), List.Pairwise.nil⟩ (by rw [hsz]; exact Nat.le_refl _);rw [hsz] at ok
 have fresh : ∀ a, h.objs.size ≤ a → h.get? a = none := fun a ha => by
  cases e : h.get? a with
  | none => rfl
  | some o => exact absurd (Heap.lt_size e) (Nat.not_lt.mpr ha)
 have dρ : ∀ a, h.get? a = none → a ∉ ρ := fun a ha hm => by
  refine el12 (W.mem hm) fun o e O => ?_;rw [ha] at e; exact nn e
 have dB : ∀ a, h.get? a = none → B.get? a = none := fun a ha => by
  cases e : B.get? a with
  | none => rfl
  | some o => rw [W.base a o e] at ha; cases ha
 have look1 : ∀ x, cellish (sc.names.lookup x) = true → (∃ a, (cellsFrom (h.objs.size + 1) sc.names (closOf env sc.names [])).lookup x = some a ∧ (x, .cell) ∈ sc.names ∧ (x, a) ∈ cellsFrom (h.objs.size + 1) sc.names []) ∨
   (∃ a, (cellsFrom (h.objs.size + 1) sc.names (closOf env sc.names [])).lookup x = some a ∧ (x, .free) ∈ sc.names ∧ cellish (nm.lookup x) = true ∧ env.cells.lookup x = some a) := by
  intro x hx
  have hx2 : sc.names.lookup x = some .cell ∨ sc.names.lookup x = some .free := by
   cases e : sc.names.lookup x with
   | none => rw [e] at hx; exact ff hx
   | some k => rw [e] at hx; cases k <;> first | (cases hx; done) | simp
  rw [cellsFrom_app, lookup_app];rcases hx2 with e | e
  ·have hm := mem_of_lookup e;refine el11 (Option.isSome_iff_exists.mp (cellsFrom_some (n := h.objs.size + 1) (acc := []) (.inl hm))) fun a ha => ?_;exact .inl ⟨a, by rw [ha], hm, mem_of_lookup ha⟩
  ·have hm := mem_of_lookup e
   have hnone : (cellsFrom (h.objs.size + 1) sc.names []).lookup x = none := by
    cases q : (cellsFrom (h.objs.size + 1) sc.names []).lookup x with
    | none => rfl
    | some a =>
     rcases cellsFrom_mem (mem_of_lookup q) with h1 | h1
     ·cases h1
     ·cases mem_unique hn h1 hm
   rw [hnone];have hc := hf x hm;refine el22 (F.cells x hc) fun a ov e1 O => ?_;refine el11 (Option.isSome_iff_exists.mp (closOf_some (env := env) (acc := []) (.inl hm))) fun a' ha' => ?_;rcases closOf_mem (mem_of_lookup ha') with h1 | ⟨_, h1⟩
   ·cases h1
   ·rw [e1] at h1;have h1' : a' = a := h1;subst h1';exact .inr ⟨a', ha', hm, hc, e1⟩
 refine ⟨hk, F.gl, F.bu, fun x => (relabel_kcl (env := env)).1, fun x hx => (relabel_kcl (env := env)).2 hx, ⟨fun O => none, (Heap.Ns.new h (.type "dict")).keeps (pushCells_keeps _ _), fun x d hx hl => ?_⟩, dρ _ dead, dB _ dead, fun x hx => ?_, fun x y a hx hy ea eb => ?_⟩
 ·rw [cLoc_own (mem_of_lookup hx) rfl] at hl; exact nn hl
 ·rcases look1 x hx with ⟨a, q1, q2, q3⟩ | ⟨a, q1, q2, q3, q4⟩
  ·refine el02 (ok.empty _ _ q3) fun r1 r2 => ?_;exact in25 a none q1 r1 (dρ _ (fresh a (by exact ln1 1409601 90255446401 [_,_] [] r2))) (dB _ (fresh a (by exact ln1 1409601 90255446401 [_,_] [] r2))) (fun d hl => by rw [cLoc_own q2 rfl] at hl; cases hl)
  ·refine el25 (F.cells x q3) fun a' ov e1 zq1 e3 e4 e5 => ?_;refine el12 zq1 fun o ho hd => ?_;clear zq1;rw [q4] at e1; cases e1;refine in25 a ov q1 ⟨o, keep0 _ _ ho, hd⟩ e3 e4 (fun d hl => ?_);refine el12 (e5 d (cLoc_free hl)) fun v r1 r2 => ?_;exact in12 v r1 (r2.mono0 im)
 ·have live : ∀ x a, cellish (nm.lookup x) = true → env.cells.lookup x = some a → a < h.objs.size := fun x a hc he => by
   refine el23 (F.cells x hc) fun a' ov e1 zq1 O => ?_;refine el12 zq1 fun o ho hd => ?_;clear zq1;rw [he] at e1; cases e1;exact Heap.lt_size ho
  rcases look1 x hx with ⟨a1, q1, q2, q3⟩ | ⟨a1, q1, q2, q3, q4⟩ <;> rcases look1 y hy with ⟨a2, p1, p2, p3⟩ | ⟨a2, p1, p2, p3, p4⟩
  ·rw [q1] at ea; rw [p1] at eb; cases ea; cases eb;exact name_of_addr ok.apart q3 p3
  ·rw [q1] at ea; rw [p1] at eb; cases ea; cases eb;have h1 := (ok.empty _ _ q3).2;have h2 := live y _ p3 p4;exact absurd h2 (Nat.not_lt.mpr (Nat.le_of_succ_le h1))
  ·rw [q1] at ea; rw [p1] at eb; cases ea; cases eb;have h1 := (ok.empty _ _ p3).2;have h2 := live x _ q3 q4;exact absurd h2 (Nat.not_lt.mpr (Nat.le_of_succ_le h1))
  ·rw [q1] at ea; rw [p1] at eb; cases ea; cases eb;exact F.inj x y a q3 p3 q4 p4
end
end Mine
end

-- V
section
namespace Mine
section
variable {prog : Program} {w : World} {A : Around} {E : Value → Shared → Prop} {R : Result → Shared → Prop} {s : Shared}
theorem codeAny_compLoop_go {elt target iter : Expr} {ifs : List Expr} {scope : Scope} {pos : Pos} {it acc : Value} {env : Env} (I : Nat → Shared → Prop)
  (turn : ∀ n s, I n s → wpAny (model prog w) A (pyNext it) (fun r s₁ => match r with
   | none => R (.ok .next) s₁
   | some v => wpAny (model prog w) A (letOwnedTupleGo target it v) (fun _ s₁' => wpAny (model prog w) A (assign target env v) (fun _ s₂ =>
     wpAny (model prog w) A (forIn ifs true fun c r => if r = true then do let ok ← isTrue c env (eval c env); pure (ForInStep.yield ok) else pure (ForInStep.yield r)) (fun ok s₃ =>
      if ok = true then wpAny (model prog w) A (eval elt env) (fun x s₄ =>
       wpAny (model prog w) A (call (.builtin "list.append") [acc, x]) (fun _ s₅ => ∃ m, m < n ∧ I m s₅) (notedBy (model prog w) A env fun e s' => R (.error e) s') s₄) (notedBy (model prog w) A env fun e s' => R (.error e) s') s₃
      else ∃ m, m < n ∧ I m s₃) (notedBy (model prog w) A env fun e s' => R (.error e) s') s₂) (notedBy (model prog w) A env fun e s' => R (.error e) s') s₁') (notedBy (model prog w) A env fun e s' => R (.error e) s') s₁) (notedBy (model prog w) A env fun e s' => R (.error e) s') s)
  (n : Nat) (h : I n s) :
  codeAny (model prog w) A (.compLoop (.ListComp elt [⟨target, iter, ifs, 0⟩] scope pos) 0 it acc env) R s := by
 refine codeAny_loop rfl I (fun n s hI => ?_) n h
 show wpAny _ A ((compTurn (.ListComp elt [⟨target, iter, ifs, 0⟩] scope pos) 0 it acc env).onRaise (fun x => do noteFrame x env; theTreesLotGoes x)) _ _ s
 refine wpAny_noted ?_;rw [compTurn_list];refine wpAny_bind (wpAny_standAt (wpAny_bind (wpAny_mono (turn n s hI) (fun r s₁ h₁ => ?_) fun _ _ h' => h')))
 cases r with
 | none => exact wpAny_pure h₁
 | some v =>
  refine wpAny_bind (wpAny_mono h₁ (fun _ s₁' h₁' => ?_) fun _ _ h' => h');refine wpAny_bind (wpAny_mono h₁' (fun _ s₂ h₂ => wpAny_bind (wpAny_mono h₂ (fun ok s₃ h₃ => ?_) fun _ _ h' => h')) fun _ _ h' => h')
  cases ok with
  | false => exact wpAny_pure ⟨rfl, h₃⟩
  | true =>
   exact wpAny_bind (wpAny_bind (wpAny_mono h₃ (fun x s₄ h₄ => wpAny_bind (wpAny_mono h₄ (fun _ s₅ h₅ => wpAny_pure (wpAny_pure ⟨rfl, h₅⟩)) fun _ _ h' => h')) fun _ _ h' => h'))
end
section
variable {prog : Program} {w : World} {B : Heap} {ge : GE} {K : Frag} {ρ ρ' ρ₁ : List Addr} {H : AH} {env : Env} {nm : Nms} {loc : Loc} {s s' s₁ s₂ : Shared} {A : Around} {p : Ev} {n : Nat} {X Y Z : Addr → Prop}
theorem Itr.self {ds : List D} {k : Nat} {chk : AH → Bool} {Iv : Value} {Q : Value → Shared → Prop} {E : Value → Shared → Prop} (it : Itr B ρ s.heap ds k chk Iv X false) (h : Q Iv s) : wpAny (model prog w) A (pyIter Iv) Q E s := by
 cases it with
 | tup h1 h2 hv => exact wpAny_pyIter_tupleiter h1 h
 | fl h1 h2 hv => exact wpAny_pyIter_listiter h1 h
 | list h1 hi => exact wpAny_pyIter_listiter h1 h
 | rng hd h1 => exact wpAny_pyIter_rangeiter h1 h
set_option tactic.hygienic true in
theorem cstep_bind {elt t : Expr} {ifs : List Expr} {d : D} {q} (e : cstep p nm elt t ifs d loc H = some q) : ∃ loc1, bindT nm t d loc = some loc1 ∧ q.2.1 = loc1 ∧
  ((∃ x H1, (ifs = [] ∧ H1 = H ∨ ∃ c, ifs = [c] ∧ p.tr nm loc1 c H = some (true, H1)) ∧ p.ex nm loc1 elt H1 = some (x, q.2.2) ∧ q.1 = some x) ∨ (∃ c, ifs = [c] ∧ p.tr nm loc1 c H = some (false, q.2.2) ∧ q.1 = none)) := by
 revert e;refine obZ fun loc1 hb e => ?_
 ·refine in12 loc1 hb ?_
  split at e
  ·revert e;refine omi fun r e1 zq => ?_;subst zq;exact ⟨rfl, .inl ⟨r.1, H, .inl ⟨rfl, rfl⟩, e1, rfl⟩⟩
  ·rename_i c
   split at e
   ·rename_i H1 ht;revert e;refine omi fun r e1 zq => ?_;subst zq;exact ⟨rfl, .inl ⟨r.1, H1, .inr ⟨c, rfl, ht⟩, e1, rfl⟩⟩
   ·rename_i H1 ht;cases e;exact ⟨rfl, .inr ⟨c, rfl, ht, rfl⟩⟩
   ·exact nn e
  ·exact nn e
noncomputable abbrev XD (X : Addr → Prop) (D : Addr) : Addr → Prop := fun a => X a ∨ a = D
inductive CloopI (prog : Program) (w : World) (B : Heap) (env : Env) (nm : Nms) (p : Ev) (X : Addr → Prop) (elt t : Expr) (ifs : List Expr) (ds : List D) (chk : AH → Bool) (Iv : Value) (rs : List D) (H' : AH) (s0 : Shared) (ρ0 : List Addr) (D : Addr) (m : Nat) (s₁ : Shared) : Prop
 | mk (k : Nat) (ρ₁ : List Addr) (loc1 : Loc) (H1 : AH) (done rest : List Mine.D) (vs : Array Value) (hm : m = ds.length - k) (hk : k ≤ ds.length) (e1 : cloop chk (cstep p nm elt t ifs) (ds.drop k) loc1 H1 = some (rest, H')) (hrs : rs = done ++ rest) (hdl : done.length ≤ k) (c1 : chk H1 = true)
  (R1 : Run ρ0 (fun a => s0.heap.get? a = none) s0 ρ₁ s₁) (W1 : WR prog w B ρ₁ H1 s₁.heap) (F1 : FR B ρ₁ s₁.heap env nm loc1) (it1 : Itr B ρ₁ s₁.heap ds k chk Iv X false) (P1 : Prv B ρ₁ s₁.heap X) (D1 : s₁.heap.PlainList D vs) (V1 : VL B ρ₁ s₁.heap vs.toList done) (Dρ1 : D ∉ ρ₁) :
  CloopI prog w B env nm p X elt t ifs ds chk Iv rs H' s0 ρ0 D m s₁
set_option tactic.hygienic true in
theorem s_cloop {elt t iter : Expr} {ifs : List Expr} {sc : Scope} {pos : Pos} {ds : List D} {chk : AH → Bool} {Iv : Value} {rs : List D} {H' : AH} {s0 : Shared} {D : Addr} (S : Snd prog w B p n) (a0 : AOk n A) (hds : ds.length ≤ maxLen)
  (e : cloop chk (cstep p nm elt t ifs) ds loc H = some (rs, H')) (hc : chk H = true) (W : WR prog w B ρ H s.heap) (F : FR B ρ s.heap env nm loc) (it : Itr B ρ s.heap ds 0 chk Iv X false) (P : Prv B ρ s.heap X)
  (hD : s.heap.PlainList D #[]) (hDρ : D ∉ ρ) (hDX : ¬ X D) (hDA : Apart env nm D) (hD0 : s0.heap.get? D = none) (hDB : B.get? D = none)
  (hX : ∀ a, X a → s0.heap.get? a = none) (hA : ∀ a, X a → Apart env nm a) (hO : ∀ a, Own env nm a → s0.heap.get? a = none) (ρ0 : List Addr) (R0 : Run ρ0 (fun _ => False) s0 ρ s) (hρ : ∀ a, s0.heap.get? a = none → a ∉ ρ0) :
  codeAny (model prog w) A (.compLoop (.ListComp elt [⟨t, iter, ifs, 0⟩] sc pos) 0 Iv (.ref D) env) (fun r s' => r = .ok .next ∧ ∃ ρ₁ vs, Run ρ0 (fun _ => False) s0 ρ₁ s' ∧ WR prog w B ρ₁ H' s'.heap ∧ (∃ loc', FR B ρ₁ s'.heap env nm loc') ∧ s'.heap.PlainList D vs ∧ VL B ρ₁ s'.heap vs.toList rs ∧ D ∉ ρ₁) s := by
 refine codeAny_compLoop_go (CloopI prog w B env nm p X elt t ifs ds chk Iv rs H' s0 ρ0 D) ?_ ds.length
  ⟨0, ρ, loc, H, [], rs, #[], rfl, Nat.zero_le _, by simpa using e, rfl, Nat.le_refl _, hc, R0.mono fun _ x => x.elim, W, F, it, P, hD, .nil, hDρ⟩
 rintro m s₁ ⟨k, ρ₁, loc1, H1, done, rest, vs, rfl, hk, e1, hrs, hdl, c1, R1, W1, F1, it1, P1, D1, V1, Dρ1⟩
 by_cases hlt : k < ds.length
 ·have hd : ds.drop k = ds[k] :: ds.drop (k + 1) := List.drop_eq_getElem_cons hlt;rw [hd] at e1;unfold cloop at e1;refine any0 (it1.next (tgt := t) W1 P1 c1 (by simp) (List.getElem?_eq_getElem hlt)) fun r s₂ h => ?_;revert h;intro zh2;refine el12 zh2 fun v zr1 h => ?_;clear zh2;subst zr1;refine any0 h fun _ s₃ h => ?_;refine el03 h fun N V3 it3 => ?_;clear h;have im3 := N.imm P1;have P3 := N.prv P1;have W3 : WR prog w B ρ₁ H1 s₃.heap := W1.step P1.off N.2.1;have F3 := F1.but im3 N.2.1 hA;have D3 : s₃.heap.PlainList D vs := let ⟨m, hm⟩ := D1; ⟨m, N.2.1 _ _ hDX hm⟩;have VL3 := V1.mono0 im3
  have R3 : Run ρ0 (fun a => s0.heap.get? a = none) s0 ρ₁ s₃ := by
   refine el03 N fun zq1 hkp _ => ?_;clear N;refine el21 zq1 fun h' tk zr2 => ?_;clear zq1;subst zr2;exact R1.plus hkp hX fun a ha => hρ a (hX a ha)
  cases hst : cstep p nm elt t ifs ds[k] loc1 H1 with
  | none => rw [hst] at e1; exact nn e1
  | some q =>
   obtain ⟨r, loc2, H2⟩ := q;rw [hst] at e1;dsimp only at e1;refine el13 (cstep_bind hst) fun loc2' hb hl2 hq => ?_;simp only at hl2;subst hl2;refine any0 (s_bindT a0.h0 hb W3 F3 V3) fun _ s₄ h => ?_;refine el03 h fun R4 W4 F4 => ?_;clear h;have hXo : ∀ a, X a → ¬ Own env nm a := fun a ha => (hA a ha).own;have im4 : Imm s₃.heap s₄.heap := R4.immX W3 F3.off;have it4 := it3.run P3 R4 im4 hXo;have P4 := P3.run R4 hXo;have D4 : s₄.heap.PlainList D vs := let ⟨m, hm⟩ := D3; ⟨m, R4.kp _ _ Dρ1 hDA.own hm⟩;have VL4 := VL3.mono0 im4;have R4' : Run ρ0 (fun a => s0.heap.get? a = none) s0 ρ₁ s₄ := R3.trans (R4.mono hO)
   have keepD : ∀ {ρa ρb : List Addr} {sa sb : Shared} {us : Array Value}, D ∉ ρa → sa.heap.PlainList D us → Run ρa (fun _ => False) sa ρb sb → D ∉ ρb ∧ sb.heap.PlainList D us := by
    intro ρa ρb sa sb us h1 h2 h3;refine el11 h2 fun m hm => ?_;clear h2;refine ⟨fun h => ?_, ⟨m, h3.kp _ _ h1 (fun x => x) hm⟩⟩;refine el12 (h3.ext) fun new zr1 hn => ?_;subst zr1;rcases List.mem_append.mp h with h | h
    ·exact h1 h
    ·rw [hn _ h] at hm; exact nn hm
   split at e1
   rotate_left
   ·cases e1
   rename_i c2
   ·revert e1;refine ocL fun rs2 H3 hrest e1 => ?_
    ·cases e1
     have elem : ∀ (s₅ : Shared) (ρ₅ : List Addr) (Ha : AH) (x : Mine.D), r = some x → p.ex nm loc2 elt Ha = some (x, H2) → Run ρ₁ (fun _ => False) s₄ ρ₅ s₅ → WR prog w B ρ₅ Ha s₅.heap →
       wpAny (model prog w) A (eval elt env) (fun y s₆ => wpAny (model prog w) A (call (.builtin "list.append") [.ref D, y]) (fun _ s₇ => ∃ m, m < ds.length - k ∧ CloopI prog w B env nm p X elt t ifs ds chk Iv rs H' s0 ρ0 D m s₇) F0 s₆) F0 s₅ := by
      intro s₅ ρ₅ Ha x hr hx R5 W5;subst hr;refine PE.use (S.ex _ _ _ _ _ _ hx A s₅ ρ₅ env a0 W5 (F4.run W4 R5)) fun y s6ρ s₆ R6 W6 V6 => ?_;have R46 := R5.trans R6;refine el02 (keepD Dρ1 D4 R46) fun Dρ6 D6 => ?_;have F6 := F4.run W4 R46;have im6 := R46.imm W4;have hXF : ∀ a, X a → ¬ (fun _ : Addr => False) a := fun _ _ x => x;have it6 := it4.run P4 R46 im6 hXF;have P6 := P4.run R46 hXF;have VL6 := R46.VL W4 VL4;have hvs := VL6.length;simp only [Array.length_toList] at hvs;refine wpAny_list_append_plain D6 (fun h' h1 h2 => ?_) (by have := maxLen_le; omega);have hk6 : ∀ b o, b ≠ D → s₆.heap.get? b = some o → h'.get? b = some o := fun b o hb e => (h2.2 b hb).trans e
      have PD : Prv B s6ρ s₆.heap (· = D) := by
       refine el11 D6 fun m hm => ?_;clear D6;exact ⟨⟨fun a ha => by cases ha; exact Dρ6, fun a ha => by cases ha; exact hDB, fun a o ha e => by cases ha; rw [hm] at e; revert o; refine sm1 ?_; simp [immO]⟩, fun a ha => by cases ha; exact ⟨_, hm⟩⟩
      have im7 : Imm s₆.heap h' := PD.imX hk6;have W7 : WR prog w B s6ρ H2 h' := W6.step PD.off hk6
      have R7 : Run s6ρ (· = D) s₆ s6ρ { s₆ with heap := h', toks := s₆.toks } := Run.but (.inr rfl) hk6 (by obtain ⟨m, hm⟩ := h1; exact ⟨_, hm⟩)
      have hXD : ∀ a, X a → ¬ (a = D) := fun a ha e => hDX (e ▸ ha);refine in12 (ds.length - (k + 1)) (by exact ln2 1473601 2568707241 157845097859201 [_,_,_,_] [] (Nat.sub_add_cancel (ln1 1409601 1473601 [_,_] [] hlt)) (Nat.sub_add_cancel (ln1 90255446401 1473601 [_,_] [] hlt))) ⟨k + 1, s6ρ, loc2, H2, done ++ [x], rs2, _, rfl, hlt, hrest, by rw [hrs, List.append_assoc]; rfl, by simp; with_reducible assumption, c2, ?_, W7, ?_, it6.run P6 R7 im7 hXD, P6.run R7 hXD, h1, ?_, Dρ6⟩
      ·exact (R4'.trans (R46.mono fun _ x => x.elim)).plus (X := (· = D)) hk6 (fun a ha => by cases ha; exact hD0) (fun a ha => by cases ha; exact hρ _ hD0)
      ·exact F6.but im7 (X := (· = D)) hk6 (fun a ha => by cases ha; exact hDA)
      ·simpa using (VL6.append (VL.one V6)).mono0 im7
     rcases hq with ⟨x, Ha, hcs, hx, hr⟩ | ⟨c, rfl, ht, hr⟩
     ·rcases hcs with ⟨rfl, rfl⟩ | ⟨c, rfl, ht⟩
      ·refine wpAny_tests_nil ?_;rw [if_pos rfl];exact any0 (elem s₄ ρ₁ _ x hr hx (Run.refl ..) W4) fun y s₆ h => any0 h fun _ _ h => h
      ·refine wpAny_tests_one (PT.use (S.tr _ _ _ _ _ _ ht A s₄ ρ₁ env a0 W4 F4) fun ρ₅ s₅ R5 W5 => ?_);rw [if_pos rfl];exact any0 (elem s₅ ρ₅ _ x hr hx R5 W5) fun y s₆ h => any0 h fun _ _ h => h
     ·simp only at hr;subst hr;refine wpAny_tests_one (PT.use (S.tr _ _ _ _ _ _ ht A s₄ ρ₁ env a0 W4 F4) fun ρ₅ s₅ R5 W5 => ?_);rw [if_neg (by decide)];refine el02 (keepD Dρ1 D4 R5) fun Dρ6 D6 => ?_;have hXF : ∀ a, X a → ¬ (fun _ : Addr => False) a := fun _ _ x => x;exact in12 (ds.length - (k + 1)) (by exact ln2 1473601 2568707241 157845097859201 [_,_,_,_] [] (Nat.sub_add_cancel (ln1 1409601 1473601 [_,_] [] hlt)) (Nat.sub_add_cancel (ln1 90255446401 1473601 [_,_] [] hlt))) ⟨k + 1, ρ₅, loc2, H2, done, rs2, vs, rfl, hlt, hrest, hrs, by exact ln1 91753857601 1409601 [_,_] [] hdl, c2, R4'.trans (R5.mono fun _ x => x.elim), W5, F4.run W4 R5, it4.run P4 R5 (R5.imm W4) hXF, P4.run R5 hXF, D6, R5.VL W4 VL4, Dρ6⟩
 ·have hk' : k = ds.length := by exact Nat.le_antisymm (ln1 1409601 1409601 [_,_] [] hk) (ln1 1409601 1409601 [_,_] [] (Nat.le_of_not_lt hlt))
  subst hk';rw [List.drop_length] at e1;cases e1;refine any0 (it1.done a0.h0 W1 c1) fun r s₂ h => ?_;refine el03 h fun zr1 zq2 hkp => ?_;clear h;subst zr1;refine el21 zq2 fun h' tk zr3 => ?_;clear zq2;subst zr3;have im : Imm s₁.heap h' := P1.imX hkp;refine ⟨rfl, ρ₁, vs, (R1.plus hkp hX fun a ha => hρ a (hX a ha)).fresh fun a ha => .inr ha, W1.step P1.off hkp, ⟨_, F1.but im hkp hA⟩, let ⟨m, hm⟩ := D1; ⟨m, hkp _ _ hDX hm⟩, ?_, Dρ1⟩;rw [hrs, List.append_nil];exact V1.mono0 im
end
end Mine
end

-- W
section
namespace Mine
section
variable {prog : Program} {w : World} {B : Heap} {ge : GE} {K : Frag} {ρ ρ' ρ₁ : List Addr} {H : AH} {env : Env} {nm : Nms} {loc : Loc} {s s' s₁ s₂ : Shared} {A : Around} {p : Ev} {n : Nat} {X Y Z : Addr → Prop}
theorem newEnvC {M : Model} {E : Value → Shared → Prop} {sc : Scope} {g : Addr} {clo : List (Str × Addr)} {qual : Str} {bu : Addr} {Q : Env → Shared → Prop}
  (hQ : Q { scope := sc, locals := s.heap.objs.size, globals := g, cells := cellsFrom (s.heap.objs.size + 1) sc.names clo, qual := qual, func := none, code := env.code, frame := env.frame, builtins := env.builtins }
   { s with heap := cHeap sc s.heap }) : wpAny M A (newFunctionEnv sc g clo [] qual none .none (some env) bu) Q E s := by
 simp only [newFunctionEnv, Option.isSome_some, if_true];refine wpAny_bind (wpAny_alloc ?_)
 refine wpAny_bind (wpAny_layCells _ (fun name kind cells => by cases hkc : kind == NameKind.cell <;> simp [hkc]) _ _ _ _ ?_)
 rw [show ({ s with heap := s.heap.push { cls := .type "dict", data := .dict #[] } } : Shared).heap.objs.size = s.heap.objs.size + 1 from Heap.size_push ..]
 refine wpAny_bind ?_;rw [List.forIn_nil];exact wpAny_pure (wpAny_pure hQ)
theorem Run.add (R : Run ρ X s ρ₁ s₁) {a : Addr} (h : s.heap.get? a = none) : Run ρ X s (ρ₁ ++ [a]) s₁ := by
 obtain ⟨hs, ⟨new, rfl, hn⟩, k, l⟩ := R;refine ⟨hs, ⟨new ++ [a], by rw [List.append_assoc], fun b hb => ?_⟩, k, l⟩;rcases List.mem_append.mp hb with hb | hb
 ·exact hn b hb
 ·rw [List.mem_singleton.mp hb]; exact h
theorem Run.dead (R : Run ρ X s ρ₁ s₁) {a : Addr} (h : s₁.heap.get? a = none) : s.heap.get? a = none := by
 cases e : s.heap.get? a with
 | none => rfl
 | some o => refine el11 (R.lv a o e) fun o' e' => ?_; rw [h] at e'; cases e'
noncomputable def PC (prog : Program) (w : World) (B : Heap) (ρ : List Addr) (s : Shared) (H' : AH) (d : D) (C : Addr) (acc : Value) (s' : Shared) : Prop :=
 ∃ ρ₂, Run ρ (fun _ => False) s ρ₂ s' ∧ WR prog w B ρ₂ H' s'.heap ∧ V B ρ₂ s'.heap acc d ∧ s.heap.get? C = none ∧ (∃ m, s'.heap.Ns C m) ∧ C ∉ ρ₂
theorem exD_comp {elt t iter : Expr} {ifs : List Expr} {sc : Scope} {pos : Pos} : exD ge p nm loc (.ListComp elt [⟨t, iter, ifs, 0⟩] sc pos) H = (if !scopeOk nm sc || !notSet iter then none else match p.ex nm loc iter H with
  | some (d, H1) => match src H1 d with
   | some (ds, o) => if decide (ds.length ≤ maxLen) then
     match cloop (still o ds) (cstep p sc.names elt t ifs) ds (cLoc sc loc) H1 with
     | some (rs, H2) => newL H2 rs
     | none => none
    else none
   | none => none
  | none => none) := by rfl
set_option tactic.hygienic true in
theorem s_comp {elt t iter : Expr} {ifs : List Expr} {sc : Scope} {pos : Pos} {use : Option (Value → Sem Unit)} {Q : Value → Shared → Prop} {d : D} {H' : AH} (S : Snd prog w B p n) (a0 : AOk n A)
  (e : exD ge p nm loc (.ListComp elt [⟨t, iter, ifs, 0⟩] sc pos) H = some (d, H')) (W : WR prog w B ρ H s.heap) (F : FR B ρ s.heap env nm loc)
  (fin : ∀ C acc s', PC prog w B ρ s H' d C acc s' → compPost (model prog w) A F0 use Q acc C (.ok .next) s') :
  wpAny (model prog w) A (comprehension (.ListComp elt [⟨t, iter, ifs, 0⟩] sc pos) sc env (firstIterPos [⟨t, iter, ifs, 0⟩] pos) (newList []) false (eval iter env) use) Q F0 s := by
 rw [exD_comp] at e;revert e;refine ifn fun hok e => ?_;simp only [Bool.or_eq_true, not_or, Bool.not_eq_true, Bool.not_eq_true', Bool.not_eq_false] at hok;refine el02 hok fun hsc hns => ?_;clear hok;refine el03 (scopeOk_spec hsc) fun k1 k2 k3 => ?_;revert e;refine ocD fun d0 H1 h1 e => ?_
 ·revert e;refine ocO fun ds o hsrc e => ?_
  ·split at e
   rotate_left
   ·cases e
   rename_i hz
   ·simp only [decide_eq_true_eq] at hz;revert e;refine ocL fun rs H2 hcl e => ?_
    ·refine el03 (newL_eq e) fun hrs zr1 zr2 => ?_;subst zr1;subst zr2
     refine wpAny_comprehension_free (g := ⟨t, iter, ifs, 0⟩) (gs := []) rfl (fun x => by cases iter <;> first | rfl | cases hns) (closureFor_eq (env := env) fun x hx hf => ?_) k1 (fun x hx hl => lookup_mem_nodup k2 (by obtain ⟨a, b⟩ := x; simp only at hl; rw [← hl]; exact hx)) ?_
     ·obtain ⟨x1, x2⟩ := x;simp only at hf;subst hf;refine el22 (F.cells x1 (k3 x1 hx)) fun a ov q _ => ?_;simp only;rw [q]; rfl
     refine PE.use (S.ex _ _ _ _ _ _ h1 A s ρ env a0 W F) fun x ρ1 s1 R1 W1 V1 => ?_;have F1 := F.run W R1;refine el02 (s_iter (A := A) W1 hsrc V1) fun hit hst => ?_;refine any0 hit fun Iv s2 h2 => ?_;refine el15 h2 fun X hX hk2 zq1 it2 P2 => ?_;clear h2;refine el21 zq1 fun hp2 tk2 zr2 => ?_;clear zq1;subst zr2;dsimp only at hk2 it2 P2;refine wpAny_newList ?_;dsimp only;refine newEnvC ?_;dsimp only;have hk3 : ∀ b o, hp2.get? b = some o → (hp2.push { cls := .type "list", data := .seq #[] }).get? b = some o := fun b o e => Heap.get?_push_of_some _ e;have hD3 : (hp2.push { cls := .type "list", data := .seq #[] }).get? hp2.objs.size = some { cls := .type "list", data := .seq #[] } := Heap.get?_push_size _ rfl;generalize hh3 : hp2.push { cls := .type "list", data := .seq #[] } = h3 at hk3 hD3;have hk4 : ∀ b o, h3.get? b = some o → (cHeap sc h3).get? b = some o := fun b o e => pushCells_keeps _ _ b o (Heap.get?_push_of_some _ e);have hk12 : ∀ b o, s1.heap.get? b = some o → (cHeap sc h3).get? b = some o := fun b o e => hk4 b o (hk3 b o (hk2 b o e));have W3 : WR prog w B ρ1 H1 h3 := (W1.keep hk2).keep hk3;have F3 : FR B ρ1 h3 env nm loc := (F1.keep hk2).keep hk3;have F4 := FR.comp W3 F3 hsc;have W4 : WR prog w B ρ1 H1 (cHeap sc h3) := W3.keep hk4;have dead3 : h3.get? h3.objs.size = none := fresh_size h3
     have back2 : ∀ a, hp2.get? a = none → s1.heap.get? a = none := fun a h => by
      cases q : s1.heap.get? a with
      | none => rfl
      | some o => rw [hk2 a o q] at h; cases h
     have back3 : ∀ a, h3.get? a = none → s1.heap.get? a = none := fun a h => back2 a (by
      cases q : hp2.get? a with
      | none => rfl
      | some o => rw [hk3 a o q] at h; cases h)
     have hD0 : s1.heap.get? hp2.objs.size = none := back2 _ (fresh_size _)
     have Rk : ∀ (s4 : Shared), s4 = { s1 with heap := cHeap sc h3, toks := tk2 } → Run ρ1 (fun _ => False) s1 ρ1 s4 := fun s4 h => by rw [h]; exact Run.keep hk12
     have liveC : ∀ a, (∃ o, h3.get? a = some o) → Apart (cEnv sc env h3.objs.size) sc.names a ∨ cellish (nm.lookup (Str.ofString "")) = true ∨ True := fun _ _ => .inr (.inr trivial)
     have ownC : ∀ a, Own (cEnv sc env h3.objs.size) sc.names a → h3.get? a = none := by
      rintro a (rfl | ⟨y, hy, hc⟩)
      ·exact dead3
      ·have hy' := mem_of_lookup hy;have hc' : (cellsFrom (h3.objs.size + 1) sc.names (closOf env sc.names [])).lookup y = some a := hc;rw [cellsFrom_app, lookup_app] at hc';refine el11 (Option.isSome_iff_exists.mp (cellsFrom_some (n := h3.objs.size + 1) (acc := []) (.inl hy'))) fun b hb => ?_;rw [hb] at hc';cases hc';have ok := cellsFrom_ok sc.names (h3.push { cls := .type "dict", data := .dict #[] }) (h3.objs.size + 1) [] ⟨fun _ _ hm => (nomatch hm), List.Pairwise.nil⟩ (by rw [Heap.size_push]; exact Nat.le_refl _);rw [Heap.size_push] at ok;have := (ok.empty _ _ (mem_of_lookup hb)).2
       cases q : h3.get? a with
       | none => rfl
       | some o => exact absurd (Heap.lt_size q) (Nat.not_lt.mpr (Nat.le_of_succ_le this))
     have apartC : ∀ a o, h3.get? a = some o → (∀ x c, cellish (nm.lookup x) = true → env.cells.lookup x = some c → a ≠ c) → Apart (cEnv sc env h3.objs.size) sc.names a := by
      intro a o ho hcells;refine ⟨fun e' => ?_, fun y c hy hc => ?_⟩
      ·have : a = h3.objs.size := e';rw [this, dead3] at ho; exact nn ho
      ·rintro rfl
       have hc' : (cellsFrom (h3.objs.size + 1) sc.names (closOf env sc.names [])).lookup y = some a := hc;rw [cellsFrom_app, lookup_app] at hc'
       cases q : (cellsFrom (h3.objs.size + 1) sc.names []).lookup y with
       | some b =>
        rw [q] at hc';cases hc'
        have hy' : (y, .cell) ∈ sc.names := by
         rcases cellsFrom_mem (mem_of_lookup q) with h | h
         ·cases h
         ·exact h
        have := ownC a (.inr ⟨y, lookup_mem_nodup k2 hy', by show (cellsFrom (h3.objs.size + 1) sc.names (closOf env sc.names [])).lookup y = some a; rw [cellsFrom_app, lookup_app, q]⟩);rw [this] at ho; exact nn ho
       | none =>
        rw [q] at hc';rcases closOf_mem (mem_of_lookup hc') with h | ⟨h, h'⟩
        ·cases h
        ·have hcl' := k3 y h;refine el22 (F.cells y hcl') fun a' ov e1 _ => ?_;rw [e1] at h';exact hcells y a' hcl' e1 h'
     have apX : ∀ a, X a → Apart (cEnv sc env h3.objs.size) sc.names a := fun a ha => by
      refine el11 (P2.lv a ha) fun o ho => ?_;exact apartC a o (hk3 _ _ ho) fun x c hx hc => (F1.apart (hX a ha)).2 x c hx hc
     have apD : Apart (cEnv sc env h3.objs.size) sc.names hp2.objs.size := apartC _ _ hD3 fun x c hx hc => (F1.apart hD0).2 x c hx hc;have im24 : Imm hp2 (cHeap sc h3) := fun b o e _ => hk4 b o (hk3 b o e)
     have Run24 : Run ρ1 (fun _ => False) { s1 with heap := hp2, toks := tk2 } ρ1 { s1 with heap := cHeap sc h3, toks := tk2 } := ⟨⟨_, _, rfl⟩, ⟨[], by simp, fun _ h => nomatch h⟩, fun b o _ _ e => hk4 b o (hk3 b o e), fun b o e => ⟨o, hk4 b o (hk3 b o e)⟩⟩
     have it4 := it2.run (s := { s1 with heap := hp2, toks := tk2 }) (s' := { s1 with heap := cHeap sc h3, toks := tk2 }) P2 Run24 im24 fun _ _ x => x
     have P4 := P2.run (s := { s1 with heap := hp2, toks := tk2 }) (s' := { s1 with heap := cHeap sc h3, toks := tk2 }) Run24 fun _ _ x => x
     have hDX : ¬ X hp2.objs.size := fun h => by
      refine el11 (P2.lv _ h) fun o ho => ?_;rw [fresh_size] at ho; exact nn ho
     have core := s_cloop (s := { s1 with heap := cHeap sc h3, toks := tk2 }) (s0 := s1) (env := cEnv sc env h3.objs.size) (iter := iter) (sc := sc) (pos := pos) (D := hp2.objs.size) S a0 hz hcl hst W4 F4 it4 P4 ⟨0, hk4 _ _ hD3⟩ (dead_ρ W1 hD0) hDX apD hD0 (dead_B W1 hD0) hX apX
      (fun a ha => back3 a (ownC a ha)) ρ1 (Rk _ rfl) fun a ha => dead_ρ W1 ha
     have last : ∀ r s', (r = .ok .next ∧ ∃ ρ₁ vs, Run ρ1 (fun _ => False) s1 ρ₁ s' ∧ WR prog w B ρ₁ H2 s'.heap ∧ (∃ loc', FR B ρ₁ s'.heap (cEnv sc env h3.objs.size) sc.names loc') ∧ s'.heap.PlainList hp2.objs.size vs ∧ VL B ρ₁ s'.heap vs.toList rs ∧ hp2.objs.size ∉ ρ₁) →
       compPost (model prog w) A F0 use Q (.ref hp2.objs.size) h3.objs.size r s' := by
      intro r s' zi1;refine el02 zi1 fun zr2 zq3 => ?_;clear zi1;subst zr2;refine el26 zq3 fun ρ₁ vs q1 q2 zq4 zq5 q5 q6 => ?_;clear zq3;refine el11 zq4 fun loc' q3 => ?_;clear zq4;refine el11 zq5 fun m q4 => ?_;clear zq5;refine fin _ _ _ ⟨ρ₁ ++ [hp2.objs.size], R1.trans (q1.add hD0), ?_, .ref (by rw [← q2.len]; simp), R1.dead (back3 _ dead3), ⟨_, q3.ns.choose_spec.1⟩, fun h => ?_⟩
      ·refine q2.adopt q6 (dead_B W1 hD0) (fun ob e => by rw [q4] at e; revert ob; refine sm1 ?_; simp [immO]) (fun b ob _ e => e) ⟨vs, ⟨m, q4⟩, q5.mono fun _ _ e _ => e⟩
      ·rcases List.mem_append.mp h with h | h
       ·exact q3.lρ h
       ·rw [List.mem_singleton] at h;rw [← h, dead3] at hD3; exact nn hD3
     refine codeAny_mono (codeAny_compStart_list core ?_) last;exact it4.self core
theorem PC.go {C : Addr} {d : D} {acc : Value} {H' : AH} (h : PC prog w B ρ s H' d C acc s') (W : WR prog w B ρ H s.heap) : ∃ m, s'.heap.Ns C m ∧ ∀ h', Heap.SameBut C s'.heap h' → PE prog w B ρ s H' d acc { s' with heap := h' } := by
 refine el16 h fun ρ₂ R W2 V2 hd zq1 hc => ?_;clear h;refine el11 zq1 fun m hm => ?_;clear zq1;refine in12 m hm (fun h' hs => ?_);have hk : ∀ b o, b ≠ C → s'.heap.get? b = some o → h'.get? b = some o := fun b o hb e => (hs.2 b hb).trans e
 have hi : ∀ o, s'.heap.get? C = some o → immO o = false := fun o e => by
  refine el33 hm fun o' es ep e' hdd U => ?_;clear hm;rw [e] at e'; cases e';simp [immO, hdd]
 have O : Off B ρ₂ s'.heap (· = C) := ⟨fun a ha => by cases ha; exact hc, fun a ha => by cases ha; exact dead_B W hd, fun a o ha e => by cases ha; exact hi o e⟩;have im : Imm s'.heap h' := fun b o e hi' => hk b o (fun e' => by subst e'; rw [hi o e] at hi'; cases hi') e;exact in13 (ρ₂) (R.plus (X := (· = C)) (tk := s'.toks) hk (fun a ha => by cases ha; exact hd) (fun a ha => by cases ha; exact dead_ρ W hd)) (W2.step O hk) (V2.mono0 im)
theorem s_ListComp {elt t iter : Expr} {ifs : List Expr} {sc : Scope} {pos : Pos} {d : D} {H' : AH} (S : Snd prog w B p n) (a0 : AOk n A)
  (e : exD ge p nm loc (.ListComp elt [⟨t, iter, ifs, 0⟩] sc pos) H = some (d, H')) (W : WR prog w B ρ H s.heap) (F : FR B ρ s.heap env nm loc) :
  wpAny (model prog w) A (eval (.ListComp elt [⟨t, iter, ifs, 0⟩] sc pos) env) (PE prog w B ρ s H' d) F0 s := by
 rw [arm_eval_ListComp];exact s_comp (use := none) S a0 e W F fun C acc s' h => h.go W
set_option tactic.hygienic true in
theorem s_CompUse {elt t iter : Expr} {ifs : List Expr} {sc : Scope} {pos q : Pos} {x : Str} {d : D} {H' : AH} (S : Snd prog w B p n) (a0 : AOk n A) (hx : isOwn (nm.lookup x) = true)
  (e : exD ge p nm loc (.ListComp elt [⟨t, iter, ifs, 0⟩] sc pos) H = some (d, H')) (W : WR prog w B ρ H s.heap) (F : FR B ρ s.heap env nm loc) :
  wpAny (model prog w) A (evalThenUse (.ListComp elt [⟨t, iter, ifs, 0⟩] sc pos) env (assign (.Name x q) env)) (fun _ s' => PS prog w B ρ s env nm .next (Mine.put loc x d) H' .next s') F0 s := by
 rw [arm_evalThenUse_ListComp];refine wpAny_bind (s_comp (use := some (assign (.Name x q) env)) S a0 e W F fun C acc s' h => ?_);refine el16 h fun ρ₂ R W2 V2 hd zq1 hc => ?_;clear h;refine el11 zq1 fun m hm => ?_;clear zq1;refine wpAny_assign_Name (any0 (s_store W2 (F.run W R) hx V2) fun _ s'' h => ?_);refine el03 h fun R3 W3 F3 => ?_;clear h;have hA : Apart env nm C := F.apart hd;refine el32 hm fun oC es ep eC rC => ?_;clear hm;have eC' := R3.kp _ _ hc hA.own eC;refine in12 m ⟨oC, es, ep, eC', rC⟩ (fun h' hs => wpAny_pure ?_);have hk : ∀ b o, b ≠ C → s''.heap.get? b = some o → h'.get? b = some o := fun b o hb e => (hs.2 b hb).trans e
 have hi : ∀ o, s''.heap.get? C = some o → immO o = false := fun o e => by
  rw [eC'] at e; revert o; refine sm1 ?_;simp [immO, rC.1]
 have O : Off B ρ₂ s''.heap (· = C) := ⟨fun a ha => by cases ha; exact hc, fun a ha => by cases ha; exact dead_B W hd, fun a o ha e => by cases ha; exact hi o e⟩;have im : Imm s''.heap h' := fun b o e hi' => hk b o (fun e' => by subst e'; rw [hi o e] at hi'; cases hi') e;refine in14 (ρ₂) ?_ (W3.step O hk) (F3.but im (X := (· = C)) hk fun a ha => by cases ha; exact hA) .next;exact ((R.mono fun _ x => x.elim).trans R3).plus (X := (· = C)) (tk := s''.toks) hk (fun a ha => by cases ha; exact hd) (fun a ha => by cases ha; exact dead_ρ W hd)
end
end Mine
end

-- X
section
namespace Mine
section
variable {prog : Program} {w : World} {B : Heap} {ge : GE} {K : Frag} {ρ ρ' ρ₁ : List Addr} {H : AH} {env : Env} {nm : Nms} {loc : Loc} {s s' s₁ s₂ : Shared} {A : Around} {p : Ev} {n : Nat} {X Y Z : Addr → Prop}
theorem put_cons {z x : Str} {o : Option D} {r : Loc} {d : D} : Mine.put ((z, o) :: r) x d = if z == x then (z, some d) :: r else (z, o) :: Mine.put r x d := rfl
theorem put_comm {x y : Str} {a b : D} (h : x ≠ y) : ∀ {loc : Loc}, Mine.put (Mine.put loc x a) y b = Mine.put (Mine.put loc y b) x a
 | [] => rfl
 | (z, o) :: r => by
  by_cases hx : z = x
  ·subst hx
   have hy : (z == y) = false := by simpa using h
   simp [put_cons, hy]
  ·have hx' : (z == x) = false := by simpa using hx
   by_cases hy : z = y
   ·subst hy;simp [put_cons, hx']
   ·have hy' : (z == y) = false := by simpa using hy
    simp only [put_cons, hx', hy', Bool.false_eq_true, if_false];rw [put_comm h]
noncomputable def puts (loc : Loc) (l : List (Str × D)) : Loc := l.foldl (fun r p => Mine.put r p.1 p.2) loc
theorem puts_put {x : Str} {d : D} : ∀ {l : List (Str × D)} {loc : Loc}, x ∉ l.map (·.1) → puts (Mine.put loc x d) l = Mine.put (puts loc l) x d
 | [], _, _ => rfl
 | (y, e) :: l, loc, h => by
  simp only [List.map_cons, List.mem_cons, not_or] at h
  show puts (Mine.put (Mine.put loc x d) y e) l = Mine.put (puts (Mine.put loc y e) l) x d
  rw [put_comm h.1, puts_put h.2]
theorem puts_rev : ∀ {l : List (Str × D)} {loc : Loc}, (l.map (·.1)).Nodup → puts loc l.reverse = puts loc l
 | [], _, _ => rfl
 | (x, d) :: l, loc, h => by
  rw [List.map_cons, List.nodup_cons] at h;rw [List.reverse_cons];unfold puts;rw [List.foldl_append]
  show Mine.put (puts loc l.reverse) x d = puts (Mine.put loc x d) l
  rw [puts_rev h.2, puts_put h.1]
theorem fill_spec : ∀ {xs : List Str} {ds : List D} {loc loc' : Loc}, fill nm xs ds loc = some loc' → (∀ x ∈ xs, isOwn (nm.lookup x) = true) ∧ xs.length = ds.length ∧ loc' = puts loc (xs.zip ds)
 | [], ds, loc, loc', h => by
  cases ds with
  | nil => revert loc'; refine sm1 ?_; exact ⟨fun _ h => by simp at h, rfl, rfl⟩
  | cons d ds => exact nn h
 | x :: xs, ds, loc, loc', h => by
  cases ds with
  | nil => exact nn h
  | cons d ds =>
   revert h;refine ifs fun hx h => ?_
   ·refine el03 (fill_spec h) fun h1 h2 h3 => ?_;refine in03 (fun y hy => ?_) (by simp [h2]) h3;rcases List.mem_cons.mp hy with rfl | hy
    ·exact hx
    ·exact h1 y hy
theorem fill_of : ∀ {xs : List Str} {ds : List D} {loc : Loc}, (∀ x ∈ xs, isOwn (nm.lookup x) = true) → xs.length = ds.length → fill nm xs ds loc = some (puts loc (xs.zip ds))
 | [], ds, loc, _, h => by
  cases ds with
  | nil => rfl
  | cons d ds => cases h
 | x :: xs, ds, loc, ho, h => by
  cases ds with
  | nil => cases h
  | cons d ds =>
   unfold fill;rw [if_pos (ho x List.mem_cons_self)];exact fill_of (fun y hy => ho y (List.mem_cons_of_mem _ hy)) (by simpa using h)
theorem fill_rev {xs : List Str} {ds : List D} {loc' : Loc} (hn : xs.Nodup) (h : fill nm xs ds loc = some loc') : fill nm xs.reverse ds.reverse loc = some loc' := by
 refine el03 (fill_spec h) fun h1 h2 zr1 => ?_;subst zr1;rw [fill_of (fun x hx => h1 x (List.mem_reverse.mp hx)) (by simpa using h2)]
 have : xs.reverse.zip ds.reverse = (xs.zip ds).reverse := by
  show List.zipWith Prod.mk xs.reverse ds.reverse = (List.zipWith Prod.mk xs ds).reverse
  rw [List.reverse_zipWith h2]
 rw [this, puts_rev];rw [List.map_fst_zip (Nat.le_of_eq h2)];exact hn
theorem filter_names {f : Expr → Option Str} (hf : ∀ x q y, f (.Name x q) = some y → y = x) : ∀ (l : List (Str × Pos)), ((l.map fun x => Expr.Name x.1 x.2).filterMap f).length = l.length → (l.map fun x => Expr.Name x.1 x.2).filterMap f = l.map (·.1)
 | [], _ => rfl
 | (x, q) :: l, h => by
  rw [List.map_cons] at h ⊢
  cases e : f (.Name x q) with
  | none =>
   rw [List.filterMap_cons, e] at h;have := List.length_filterMap_le f (l.map fun x => Expr.Name x.1 x.2);rw [List.length_map] at this;simp only [List.length_cons] at h
   omega
  | some y =>
   rw [List.filterMap_cons, e] at h ⊢;have hy := hf _ _ _ e;subst hy;simp only [List.length_cons, Nat.add_right_cancel_iff] at h;rw [List.map_cons];exact congrArg _ (filter_names hf l h)
theorem sw_no {t v : Expr} {line : Nat} (e : swapsWith v (some t) line env = pure false) : ∃ b, swapsWith v (some t) line env = pure b ∧ (b = true → isComp v = true ∧ ∃ x q, t = .Name x q) := ⟨false, e, fun h => by cases h⟩
theorem swaps_any {t v : Expr} {line : Nat} (h : swapOk t v = true) : ∃ b, swapsWith v (some t) line env = pure b ∧ (b = true → isComp v = true ∧ ∃ x q, t = .Name x q) := by
 cases v with
 | ListComp a b c d =>
  cases t with
  | Name x q => exact ⟨_, rfl, fun O => ⟨rfl, x, q, rfl⟩⟩
  | _ => exact sw_no rfl
 | SetComp => exact ff h
 | DictComp => exact ff h
 | _ => exact sw_no rfl
theorem swapped_no {t v : Expr} (h : (!(isTup t || Nat.beq t.ctorIdx 24)) = true) : swappedStores [t] v env = pure none := by
 cases t with
 | Tuple => exact ff h
 | List => exact ff h
 | _ => rfl
theorem swapped_no2 {ts : List Expr} {x1} {q : Pos} {v : Expr} (h : isTup v = false) : swappedStores [.Tuple ts x1 q] v env = pure none := by
 cases v <;> first | (cases h; done) | rfl
theorem ite_ex {α β : Type} {c : Prop} [Decidable c] {x y : α} {F : β → α} {Q : β → Prop} {b : β} (hx : x = F b) (q : Q b) (h : ¬ c → ∃ o, y = F o ∧ Q o) : ∃ o, (if c then x else y) = F o ∧ Q o :=
 if k : c then ⟨b, (if_pos k).trans hx, q⟩ else by rw [if_neg k]; exact h k
set_option tactic.hygienic true in
theorem swapped_tup {ts vs : List Expr} {x1 y1} {q q2 : Pos} (h : swapOk (.Tuple ts x1 q) (.Tuple vs y1 q2) = true) : ∃ o, swappedStores [.Tuple ts x1 q] (.Tuple vs y1 q2) env = pure o ∧ (o = none ∨ ∃ xs, omap nameOf ts = some xs ∧ xs.Nodup ∧ o = some xs) := by
 have h : (!(vs.all (constantsAlone 8)) && (match omap nameOf ts with | some xs => decide xs.Nodup | none => false)) = true := h
 simp only [Bool.and_eq_true, Bool.not_eq_true'] at h;refine el02 h fun h1 h2 => ?_;clear h
 split at h2
 rotate_left
 ·cases h2
 rename_i xs hxs
 ·simp only [decide_eq_true_eq] at h2;refine el12 (names_each hxs) fun ps hp zr1 => ?_;subst zr1;unfold swappedStores;simp only [h1, pure_bind];refine ite_ex (b := none) rfl (.inl rfl) fun _ => ?_;refine ite_ex (b := none) rfl (.inl rfl) fun _ => ?_;refine ite_ex (b := none) rfl (.inl rfl) fun hl => ?_;refine ite_ex (b := none) rfl (.inl rfl) fun _ => ?_;refine in12 _ rfl (.inr ⟨xs, hxs, h2, congrArg some ?_⟩)
  have key := filter_names (f := fun
   | .Name id pos => if env.kindOf id == some .local && pos.line == ((((xs.zip ps).map fun x => Expr.Name x.1 x.2).head?.map (·.pos.line)).getD 0) then some id else none
   | _ => none) (fun x q y hy => by
    dsimp only at hy
    split at hy
    ·revert y; refine sm1 ?_; rfl
    ·cases hy) (xs.zip ps) (by
    simp only [Bool.or_eq_true, not_or, bne_iff_ne, ne_eq, Decidable.not_not] at hl;have := hl.1;rw [List.length_map] at this
    exact this)
  rw [List.map_fst_zip (by exact ln1 1409601 1600041 [_,_] [] hp)] at key;exact key
end
end Mine
end

-- Y
section
namespace Mine
section
variable {prog : Program} {w : World} {B : Heap} {ge : GE} {K : Frag} {ρ ρ' ρ₁ : List Addr} {H : AH} {env : Env} {nm : Nms} {loc : Loc} {s s' s₁ s₂ : Shared} {A : Around} {p : Ev} {n : Nat} {X Y Z : Addr → Prop}
set_option tactic.hygienic true in
theorem exD_comp_inv {elt : Expr} {gs : List Comprehension} {sc : Scope} {pos : Pos} {q} (e : exD ge p nm loc (.ListComp elt gs sc pos) H = some q) : ∃ t iter ifs, gs = [⟨t, iter, ifs, 0⟩] := by
 cases gs with
 | nil => exact nn e
 | cons g gs =>
  obtain ⟨t, iter, ifs, z⟩ := g
  cases gs with
  | cons _ _ => exact nn e
  | nil =>
   unfold exD at e;dsimp only at e
   split at e
   ·exact nn e
   ·rename_i hz;simp only [Bool.not_eq_true', decide_eq_false_iff_not, Decidable.not_not] at hz;subst hz;exact in31 t iter ifs rfl
noncomputable def rhs (ge : GE) (p : Ev) (nm : Nms) (loc : Loc) (v : Expr) (H : AH) : Option (D × AH) := if isComp v then exD ge p nm loc v H else p.ex nm loc v H
set_option tactic.hygienic true in
theorem s_rhs {v : Expr} {d : D} {H' : AH} (S : Snd prog w B p n) (a0 : AOk n A) (e : rhs ge p nm loc v H = some (d, H')) (W : WR prog w B ρ H s.heap) (F : FR B ρ s.heap env nm loc) :
  wpAny (model prog w) A (eval v env) (PE prog w B ρ s H' d) F0 s := by
 unfold rhs at e
 split at e
 ·rename_i hc
  cases v <;> try (cases hc; done)
  refine el31 (exD_comp_inv e) fun t iter ifs zr1 => ?_;subst zr1;exact s_ListComp S a0 e W F
 ·exact S.ex _ _ _ _ _ _ e A s ρ env a0 W F
theorem PS.of {fl : Flw} {H' : AH} {f : Flow} (R : Run ρ (fun _ => False) s ρ₁ s₁) (x : PS prog w B ρ₁ s₁ env nm fl loc H' f s') : PS prog w B ρ s env nm fl loc H' f s' := by
 refine el14 x fun ρ' R' W' F' q => ?_;clear x;exact in14 (ρ') ((R.mono fun _ x => x.elim).trans R') W' F' q
theorem isComp_inv {v : Expr} (h : isComp v = true) : ∃ a b c d, v = .ListComp a b c d := by
 cases v with
 | ListComp a b c d => exact ⟨a, b, c, d, rfl⟩
 | _ => exact ff h
theorem isTup_inv {v : Expr} (h : isTup v = true) : ∃ a b c, v = .Tuple a b c := by
 cases v with
 | Tuple a b c => exact ⟨a, b, c, rfl⟩
 | _ => exact ff h
set_option tactic.hygienic true in
theorem s_Assign {t v : Expr} {pos : Pos} {fl : Flw} {loc' : Loc} {H' : AH} (G : GOk prog w B ge K) (S : Snd prog w B p n) (a0 : AOk n A) (e : stD ge p nm (.Assign [t] v pos) loc H = some (fl, loc', H'))
  (W : WR prog w B ρ H s.heap) (F : FR B ρ s.heap env nm loc) : wpAny (model prog w) A (exec (.Assign [t] v pos) env) (PS prog w B ρ s env nm fl loc' H') F0 s := by
 revert e;refine ifn fun hok e => ?_;simp only [Bool.not_eq_true', Bool.not_eq_false] at hok;revert e;refine ocD fun d H1 h1 e => ?_
 ·refine el12 (swaps_any (env := env) (line := pos.line) hok) fun b hb hb2 => ?_;rw [arm_exec_Assign];refine wpAny_bind (wpAny_standAt ?_)
  show wpAny _ _ (swapsWith v (some t) pos.line env >>= _) _ _ s
  refine wpAny_bind (wpAny_of_eq hb ?_)
  cases b with
  | true =>
   refine el02 (hb2 rfl) fun hc zq1 => ?_;refine el21 zq1 fun x q zr2 => ?_;clear zq1;subst zr2;rw [if_pos rfl];rw [if_pos hc] at h1;refine el41 (isComp_inv hc) fun c1 c2 c3 c4 zr1 => ?_;subst zr1;refine el31 (exD_comp_inv h1) fun t iter ifs zr1 => ?_;subst zr1;dsimp only at e
   split at e
   rotate_left
   ·cases e
   rename_i hx
   ·cases e;exact wpAny_bind (any0 (s_CompUse (q := q) S a0 hx h1 W F) fun _ s₁ h => wpAny_pure h)
  | false =>
   rw [if_neg (by decide)];refine wpAny_bind (PE.use (s_rhs S a0 (by unfold rhs; exact h1) W F) fun v0 ρ₁ s₁ R₁ W₁ V₁ => ?_);have F₁ := F.run W R₁
   cases t with
   | Name x q =>
    refine wpAny_bind (wpAny_of_eq (swapped_no rfl) ?_);revert e;refine ifs fun hx e => ?_
    ·cases e;refine wpAny_bind (wpAny_assign_Name (any0 (s_store W₁ F₁ hx V₁) fun _ s₂ h => wpAny_pure ?_));refine el03 h fun R₂ W₂ F₂ => ?_;clear h;exact PS.of R₁ ⟨ρ₁, R₂, W₂, F₂, .next⟩
   | Tuple ts x1 q =>
    refine el12 (Option.map_eq_some_iff.1 e) fun loc1 hbt e1 => ?_;clear e;have e := e1;clear e1;cases e
    have norm : wpAny (model prog w) A (assignStores env v0 none ((assignEach [.Tuple ts x1 q] env).map (·.2))) (PS prog w B ρ s env nm .next loc' H') F0 s₁ := by
     refine wpAny_bind (any0 (s_bindT a0.h0 hbt W₁ F₁ V₁) fun _ s₂ h => wpAny_pure ?_);refine el03 h fun R₂ W₂ F₂ => ?_;clear h;exact PS.of R₁ ⟨ρ₁, R₂, W₂, F₂, .next⟩
    by_cases hv : isTup v = true
    ·refine el31 (isTup_inv hv) fun vs y1 q2 zr1 => ?_;subst zr1;refine el12 (swapped_tup (env := env) hok) fun o ho ho2 => ?_;refine wpAny_bind (wpAny_of_eq ho ?_);rcases ho2 with rfl | ⟨xs, hxs, hn, rfl⟩
     ·exact norm
     ·unfold bindT at hbt;dsimp only at hbt;rw [hxs] at hbt
      split at hbt
      rotate_left
      ·cases hbt
      rename_i xs' ds q1 
      ·cases q1;revert hbt;refine ifs fun hz hbt => ?_
       ·refine V.elim V₁ fun _ _ _ hto hv zq => ?_;clear V₁;subst zq;rename_i a us m;have hl := fill_len hbt;have hul := hv.length;simp only [Array.length_toList] at hul
        have hsz : xs.length = us.size := by exact Nat.le_antisymm (ln2 1409601 1539201 1603241 [_,_,_] [] hl hul) (ln2 1409601 1603241 1539201 [_,_,_] [] hl hul)
        show wpAny _ _ (do
         rule "assign.swapped-stores"
         let items ← unpackItems (.ref a) xs.length none
         assignInOrder (xs.reverse.map fun n => bindName env n) items.reverse
         pure Flow.next) _ _ s₁
        rw [hsz];refine wpAny_bind (wpAny_rule (wpAny_bind (wpAny_unpackItems_tuple a0.h0 ⟨_, hto, rfl, _, rfl⟩ fun h' hh => ?_)));have hk : ∀ b o, s₁.heap.get? b = some o → h'.get? b = some o := fun b o e => hh b o (fun e' => by rw [e', fresh_size] at e; cases e) e
        refine wpAny_bind (any0 (s_fill (s := { s₁ with heap := h' }) (by simp) (fun i f x h1 h2 => ?_) (fill_rev hn hbt) (W₁.keep hk) (F₁.keep hk) ((hv.mono0 fun b o e _ => hk b o e).reverse)) fun _ s₂ h => wpAny_pure ?_)
        ·rw [List.getElem?_map, h2] at h1;revert f;refine sm1 ?_;exact .inl rfl
        ·refine el03 h fun R₂ W₂ F₂ => ?_;clear h;exact PS.of R₁ ⟨ρ₁, (Run.keep (tk := s₁.toks) hk).trans R₂, W₂, F₂, .next⟩
    ·refine wpAny_bind (wpAny_of_eq (swapped_no2 (by simpa using hv)) norm)
   | Attribute o a q =>
    refine wpAny_bind (wpAny_of_eq (swapped_no rfl) ?_);revert e;refine ifn fun hso e => ?_;revert e;refine ocD fun b2 H2 h2 e => ?_
    ·revert e;refine omi fun H3 h3 e => ?_;cases e
     show wpAny _ _ ((assign (.Attribute o a q) env v0) >>= fun _ => pure Flow.next) _ _ s₁
     rw [arm_assign_Attribute];refine wpAny_bind (wpAny_bind (wpAny_holding (PE.use (S.ex _ _ _ _ _ _ h2 A s₁ ρ₁ env a0 W₁ F₁) fun ov ρ₂ s₂ R₂ W₂ V₂ => wpAny_bind (wpAny_standAt ?_))));refine wpAny_bind (wpAny_holding (any0 (s_setAttr G (by simpa using hso) W₂ h3 V₂ (R₂.V W₁ V₁)) fun _ s₃ h => ?_));refine el12 h fun ρ₃ R₃ W₃ => ?_;clear h;refine wpAny_release (wpAny_pure ?_);exact PS.of (R₁.trans R₂) ⟨ρ₃, R₃.mono fun _ x => x.elim, W₃, (F₁.run W₁ R₂).run W₂ R₃, .next⟩
   | Subscript o i q =>
    refine wpAny_bind (wpAny_of_eq (swapped_no rfl) ?_);revert e;refine ifn fun hso e => ?_;revert e;refine ocD fun b2 H2 h2 e => ?_
    ·revert e;refine ocD fun k H3 h3 e => ?_
     ·revert e;refine omi fun H4 h4 e => ?_;cases e
      show wpAny _ _ ((assign (.Subscript o i q) env v0) >>= fun _ => pure Flow.next) _ _ s₁
      rw [arm_assign_Subscript];refine wpAny_bind (wpAny_bind (wpAny_holding (PE.use (S.ex _ _ _ _ _ _ h2 A s₁ ρ₁ env a0 W₁ F₁) fun ov ρ₂ s₂ R₂ W₂ V₂ => ?_)));have F₂ := F₁.run W₁ R₂;refine wpAny_bind (wpAny_holding (PE.use (S.ex _ _ _ _ _ _ h3 A s₂ ρ₂ env a0 W₂ F₂) fun iv ρ₃ s₃ R₃ W₃ V₃ => wpAny_bind (wpAny_standAt ?_)));refine wpAny_bind (wpAny_holding (any0 (s_setIt W₃ h4 (R₃.V W₂ V₂) V₃ (R₃.V W₂ (R₂.V W₁ V₁))) fun _ s₄ h => ?_));refine el12 h fun ρ₄ R₄ W₄ => ?_;clear h;refine wpAny_release (wpAny_pure ?_);exact PS.of ((R₁.trans R₂).trans R₃) ⟨ρ₄, R₄.mono fun _ x => x.elim, W₄, (F₂.run W₂ R₃).run W₃ R₄, .next⟩
   | _ => exact nn e
end
end Mine
end

-- Z
section
namespace Mine
section
variable {prog : Program} {w : World} {B : Heap} {ge : GE} {K : Frag} {ρ ρ' ρ₁ : List Addr} {H : AH} {env : Env} {nm : Nms} {loc : Loc} {s s' s₁ s₂ : Shared} {A : Around} {p : Ev} {n : Nat} {X Y Z : Addr → Prop}
theorem s_For0 {t it : Expr} {b : List Stmt} {pos : Pos} {d : D} {H1 : AH} {ds : List D} {o : Option Nat} {fl : Flw} {loc' : Loc} {H' : AH} (S : Snd prog w B p n) (a0 : AOk n A) (hns : notSet it = true) (h1 : p.ex nm loc it H = some (d, H1)) (hs : src H1 d = some (ds, o))
  (e : loop (still o ds) (lstep p nm t b) ds loc H1 = some (fl, loc', H')) (W : WR prog w B ρ H s.heap) (F : FR B ρ s.heap env nm loc) : wpAny (model prog w) A (exec (.For t it b [] pos) env) (PS prog w B ρ s env nm fl loc' H') F0 s := by
 refine wpAny_For (PE.use (S.ex _ _ _ _ _ _ h1 A s ρ env a0 W F) fun x ρ1 s1 R1 W1 V1 => ?_) (fun x => by cases it <;> first | rfl | cases hns)
 have F1 := F.run W R1;refine el02 (s_iter (A := A) W1 hs V1) fun hit hst => ?_;refine any0 hit fun Iv s2 h2 => ?_;refine el15 h2 fun X hX hk2 zq1 it2 P2 => ?_;clear h2;refine el21 zq1 fun hp2 tk2 zr2 => ?_;clear zq1;subst zr2;dsimp only at hk2 it2 P2
 have := s_loop (s := { s1 with heap := hp2, toks := tk2 }) (s0 := s1) (t := t) (b := b) S.st a0 (by simp) e hst (W1.keep hk2) (F1.keep hk2) it2 P2 hX (fun a ha => F1.apart (hX a ha)) ρ1 (Run.keep hk2) fun a ha => dead_ρ W1 ha
 refine codeAny_mono this fun r s' h => ?_
 cases r with
 | ok f => exact PS.of R1 h
 | error x => exact h
set_option tactic.hygienic true in
theorem s_ForE {t x : Expr} {f : Str} {fp cp : Pos} {b : List Stmt} {pos : Pos} {i : Nat} {H1 : AH} {ds : List D} {fl : Flw} {loc' : Loc} {H' : AH} (G : GOk prog w B ge K) (S : Snd prog w B p n) (a0 : AOk n A) (hf : nameVal ge nm loc f = some (.bi .enumerate)) (ht : isTup t = true) (hx : notStar x = true)
  (h1 : p.ex nm loc x H = some (.ref i, H1)) (hs : listAt H1 i = some ds)
  (e : loop (still (some i) ds) (lstep p nm t b) (enumOf ds) loc H1 = some (fl, loc', H')) (W : WR prog w B ρ H s.heap) (F : FR B ρ s.heap env nm loc) :
  wpAny (model prog w) A (exec (.For t (.Call (.Name f fp) [x] [] cp) b [] pos) env) (PS prog w B ρ s env nm fl loc' H') F0 s := by
 refine wpAny_For ?_ (fun x => rfl);rw [arm_eval_Call_Name'];refine wpAny_bind (PE.use (s_name G W F hf) fun v ρ0 s0 R0 W0 V0 => ?_);have F0' := F.run W R0
 have hv : v = .type "enumerate" := by
  refine V.elim V0 fun zq => ?_;clear V0;subst zq
  rfl
 subst hv
 have hev : evs (p.ex nm loc) [x] H = some ([.ref i], H1) := by simp [evs, h1]
 refine s_callWith (first := []) S.ex a0 (by simp [hx]) hev W0 F0' fun vs ρ1 s1 R1 W1 V1 => ⟨keeps_bi .enumerate _, ?_⟩;have F1 := F0'.run W0 R1
 cases V1 with
 | cons x1 xr =>
 refine VL.elim xr fun zq => ?_;clear xr;subst zq
 cases x1 with
 | ref hi =>
 rename_i l;refine el12 (W1.list hs hi) fun us zq1 hv => ?_;refine el11 zq1 fun m hl => ?_;clear zq1;refine call_enumerate_1 hl fun h' q1 q2 q3 q4 => ?_;refine wpAny_pyIter_enum q1 ?_;have hne : s1.heap.objs.size + 1 ≠ s1.heap.objs.size := Nat.succ_ne_self _;have dead0 : s1.heap.get? s1.heap.objs.size = none := fresh_size _
 have dead1 : s1.heap.get? (s1.heap.objs.size + 1) = none := by
  cases q : s1.heap.get? (s1.heap.objs.size + 1) with
  | none => rfl
  | some o => exact absurd (Heap.lt_size q) (Nat.not_lt.mpr (Nat.le_succ _))
 have hX : ∀ a, (a = s1.heap.objs.size + 1 ∨ a = s1.heap.objs.size) → s1.heap.get? a = none := by
  rintro a (rfl | rfl) <;> assumption
 refine el13 q2 fun o2 r1 r2 r3 => ?_;clear q2
 have P : Prv B ρ1 h' (fun a => a = s1.heap.objs.size + 1 ∨ a = s1.heap.objs.size) := by
  refine ⟨⟨fun a ha => dead_ρ W1 (hX a ha), fun a ha => dead_B W1 (hX a ha), fun a o ha e => ?_⟩, fun a ha => ?_⟩
  ·rcases ha with rfl | rfl
   ·rw [q1] at e; revert o; refine sm1 ?_; exact immO_iter rfl ⟨_, rfl⟩ (by decide)
   ·rw [r1] at e; revert o; refine sm1 ?_; exact immO_iter r2 ⟨_, r3⟩ (by decide)
  ·rcases ha with rfl | rfl
   ·exact ⟨_, q1⟩
   ·exact ⟨_, r1⟩
 have it : Itr B ρ1 h' (enumOf ds) 0 (still (some i) ds) (.ref (s1.heap.objs.size + 1)) (fun a => a = s1.heap.objs.size + 1 ∨ a = s1.heap.objs.size) true := .enm rfl q1 ⟨o2, r1, r2, r3⟩ hi hne
 have := s_loop (s := { s1 with heap := h' }) (s0 := s1) (t := t) (b := b) S.st a0 (fun _ => ht) e (by simp [still, hs]) (W1.keep q4) (F1.keep q4) it P hX (fun a ha => F1.apart (hX a ha)) ρ1 (Run.keep (tk := s1.toks) q4) fun a ha => dead_ρ W1 ha
 refine codeAny_mono this fun r s' h => ?_
 cases r with
 | ok f => exact PS.of (R0.trans R1) h
 | error x => exact h
theorem isEnumD_of {o : Option Mine.D} (h : isEnumD o = true) : o = some (.bi .enumerate) := by
 cases o with
 | none => exact ff h
 | some d => cases d with
  | bi b => cases b with
   | enumerate => rfl
   | _ => exact ff h
  | _ => exact ff h
theorem enumArg_spec {it x : Expr} (h : enumArg ge nm loc it = some x) : ∃ f fp cp, it = .Call (.Name f fp) [x] [] cp ∧ nameVal ge nm loc f = some (.bi .enumerate) := by
 cases it with
 | Call f as ks cp => cases f with
  | Name f fp => cases as with
   | nil => exact nn h
   | cons y as => cases as with
    | cons _ _ => exact nn h
    | nil => cases ks with
     | cons _ _ => exact nn h
     | nil =>
      revert h;refine ifs fun hf h => ?_;cases h;refine in32 f fp cp rfl ?_;exact isEnumD_of hf
  | _ => exact nn h
 | _ => exact nn h
set_option tactic.hygienic true in
theorem stD_For {t it : Expr} {b : List Stmt} {pos : Pos} {fl : Flw} {loc' : Loc} {H' : AH} (e : stD ge p nm (.For t it b [] pos) loc H = some (fl, loc', H')) :
  (∃ d H1 ds o, notSet it = true ∧ p.ex nm loc it H = some (d, H1) ∧ src H1 d = some (ds, o) ∧ loop (still o ds) (lstep p nm t b) ds loc H1 = some (fl, loc', H')) ∨
  (∃ f fp x cp i H1 ds, it = .Call (.Name f fp) [x] [] cp ∧ nameVal ge nm loc f = some (.bi .enumerate) ∧ isTup t = true ∧ notStar x = true ∧ p.ex nm loc x H = some (.ref i, H1) ∧ listAt H1 i = some ds ∧ loop (still (some i) ds) (lstep p nm t b) (enumOf ds) loc H1 = some (fl, loc', H')) := by
 have plain : ∀ {it : Expr}, notSet it = true → (match p.ex nm loc it H with
   | some (d, H1) => match src H1 d with
    | some (ds, o) => if decide (ds.length ≤ maxLen) then
      loop (still o ds) (lstep p nm t b) ds loc H1
     else none
    | none => none
   | none => none) = some (fl, loc', H') → ∃ d H1 ds o, notSet it = true ∧ p.ex nm loc it H = some (d, H1) ∧ src H1 d = some (ds, o) ∧ loop (still o ds) (lstep p nm t b) ds loc H1 = some (fl, loc', H') := by
  intro it hn e;revert e;refine ocD fun d H1 h1 e => ?_
  ·revert e;refine ocO fun ds o hs e => ?_
   ·revert e;refine ifs fun _ e => ?_
    ·exact in44 d H1 ds o hn h1 hs e
 unfold stD at e;dsimp only at e
 split at e
 ·rename_i x hx;refine el32 (enumArg_spec hx) fun f fp cp zr1 hf => ?_;subst zr1
  split at e
  ·exact nn e
  ·rename_i hc;simp only [Bool.or_eq_true, not_or, Bool.not_eq_true', Bool.not_eq_false] at hc;revert e;refine ocD fun d H1 h1 e => ?_
   ·revert e;refine orf fun i zq e => ?_;subst zq
    ·revert e;refine obL fun ds hl e => ?_
     ·revert e;refine ifs fun _ e => ?_
      ·exact .inr ⟨f, fp, x, cp, i, H1, ds, rfl, hf, hc.1, hc.2, h1, hl, e⟩
 ·split at e
  ·exact nn e
  ·rename_i hn;exact .inl (plain (by simpa using hn) e)
theorem s_For {t it : Expr} {b : List Stmt} {pos : Pos} {fl : Flw} {loc' : Loc} {H' : AH} (G : GOk prog w B ge K) (S : Snd prog w B p n) (a0 : AOk n A) (e : stD ge p nm (.For t it b [] pos) loc H = some (fl, loc', H')) (W : WR prog w B ρ H s.heap) (F : FR B ρ s.heap env nm loc) :
  wpAny (model prog w) A (exec (.For t it b [] pos) env) (PS prog w B ρ s env nm fl loc' H') F0 s := by
 rcases stD_For e with ⟨d, H1, ds, o, h1, h2, h3, h4⟩ | ⟨f, fp, x, cp, i, H1, ds, rfl, h1, h2, h3, h4, h5, h6⟩
 ·exact s_For0 S a0 h1 h2 h3 h4 W F
 ·exact s_ForE G S a0 h1 h2 h3 h4 h5 h6 W F
set_option tactic.hygienic true in
theorem s_st {st : Stmt} {fl : Flw} {loc' : Loc} {H' : AH} (G : GOk prog w B ge K) (S : Snd prog w B p n) (a0 : AOk n A) (e : stD ge p nm st loc H = some (fl, loc', H')) (W : WR prog w B ρ H s.heap) (F : FR B ρ s.heap env nm loc) :
  wpAny (model prog w) A (exec st env) (PS prog w B ρ s env nm fl loc' H') F0 s := by
 cases st
 case Expr x pos =>
  cases x
  case Call f as ks q =>
   revert e;refine opi fun d H1 h1 e => ?_;cases e;refine wpAny_Expr_any (PE.use (S.ex _ _ _ _ _ _ h1 A s ρ env a0 W F) fun v ρ₁ s₁ R₁ W₁ V₁ => ?_) (by unfold interactive; rw [F.kind]; rfl) rfl;exact in14 (ρ₁) (R₁.mono fun _ x => x.elim) W₁ (F.run W R₁) .next
  all_goals first | exact nn e | cases e
 case Return v pos =>
  cases v with
  | none =>
   cases e;exact wpAny_Return_none ⟨ρ, Run.refl .., W, F, .ret .none⟩
  | some v =>
   revert e;refine opi fun d H1 h1 e => ?_;cases e;refine wpAny_Return_some (PE.use (S.ex _ _ _ _ _ _ h1 A s ρ env a0 W F) fun v ρ₁ s₁ R₁ W₁ V₁ => ?_);exact in14 (ρ₁) (R₁.mono fun _ x => x.elim) W₁ (F.run W R₁) (.ret V₁)
 case If t b o pos =>
  refine wpAny_If ?_;revert e;refine obB (fun H1 h1 e => ?_) fun H1 h1 e => ?_
  ·refine PT.use (S.tr _ _ _ _ _ _ h1 A s ρ env a0 W F) fun ρ₁ s₁ R₁ W₁ => ?_;rw [if_pos rfl];exact any0 (s_sts S.st a0 e W₁ (F.run W R₁)) fun _ _ h => PS.of R₁ h
  ·refine PT.use (S.tr _ _ _ _ _ _ h1 A s ρ env a0 W F) fun ρ₁ s₁ R₁ W₁ => ?_;rw [if_neg (by decide)];exact any0 (s_sts S.st a0 e W₁ (F.run W R₁)) fun _ _ h => PS.of R₁ h
 case Assign ts v pos =>
  cases ts with
  | nil => exact nn e
  | cons t ts =>
   cases ts with
   | nil => exact s_Assign G S a0 e W F
   | cons _ _ => exact nn e
 case While t b o pos =>
  cases o with
  | cons _ _ => exact nn e
  | nil =>
   exact wpAny_While (s_while S a0 e W F)
 case For t it b o pos =>
  cases o with
  | cons _ _ => exact nn e
  | nil => exact s_For G S a0 e W F
 all_goals first | exact nn e | cases e
set_option tactic.hygienic true in
theorem s_ex {x : Expr} {d : D} {H' : AH} (G : GOk prog w B ge K) (S : Snd prog w B p n) (a0 : AOk n A) (e : exD ge p nm loc x H = some (d, H')) (W : WR prog w B ρ H s.heap) (F : FR B ρ s.heap env nm loc) :
  wpAny (model prog w) A (eval x env) (PE prog w B ρ s H' d) F0 s := by
 cases x
 case Constant c k pos =>
  cases c
  case none => cases e; exact (fun _ _ _ => PE.here (tk := s.toks) W .none)
  case bool b => cases e; exact (fun _ _ _ => PE.here (tk := s.toks) W (.bool b))
  case int i => cases e; exact wpAny_Constant_int (PE.here W (.int i _))
  case str y =>
   revert e;refine ifs fun hy e => ?_
   ·cases e;exact wpAny_Constant_str (PE.here W (.str y _ hy))
  all_goals first | exact nn e | cases e
 case Name y pos =>
  unfold exD at e;simp only [Option.map_eq_some_iff] at e;revert e;intro zh1;refine el12 zh1 fun d' h1 e => ?_;clear zh1;cases e;exact s_name G W F h1
 case Tuple => exact s_Tuple S.ex a0 e W F
 case List => exact s_List S.ex a0 e W F
 case Dict => exact s_Dict S.ex a0 e W F
 case BinOp l op r pos =>
  revert e;refine ocD fun a H1 h1 e => ?_
  ·revert e;refine ocD fun b H2 h2 e => ?_
   ·refine wpAny_BinOp (PE.use (S.ex _ _ _ _ _ _ h1 A s ρ env a0 W F) fun va ρ₁ s₁ R₁ W₁ V₁ => ?_);refine PE.use (S.ex _ _ _ _ _ _ h2 A s₁ ρ₁ env a0 W₁ (F.run W R₁)) fun vb ρ₂ s₂ R₂ W₂ V₂ => ?_;exact any0 (s_binop a0 W₂ e (R₂.V W₁ V₁) V₂) fun _ _ h => PE.after (R₁.trans R₂) h
 case UnaryOp op y pos =>
  revert e;refine ocD fun a H1 h1 e => ?_
  ·simp only [Option.map_eq_some_iff] at e;revert e;intro zh1;refine el12 zh1 fun d' h2 e => ?_;clear zh1;cases e;refine wpAny_UnaryOp (PE.use (S.ex _ _ _ _ _ _ h1 A s ρ env a0 W F) fun va ρ₁ s₁ R₁ W₁ V₁ => ?_);exact any0 (s_unop W₁ h2 V₁) fun _ _ h => PE.after R₁ h
 case BoolOp op es pos =>
  rw [arm_eval_BoolOp];exact s_BoolOp S.ex a0 e W F
 case Compare l ops rs pos =>
  cases ops with
  | nil => exact nn e
  | cons op ops =>
   cases ops with
   | cons _ _ => exact nn e
   | nil =>
    cases rs with
    | nil => exact nn e
    | cons r rs =>
     cases rs with
     | cons _ _ => exact nn e
     | nil => exact s_Cmp G S.ex a0 e W F
 case IfExp t b o pos =>
  refine wpAny_IfExp ?_;revert e;refine obB (fun H1 h1 e => ?_) fun H1 h1 e => ?_
  ·refine PT.use (S.tr _ _ _ _ _ _ h1 A s ρ env a0 W F) fun ρ₁ s₁ R₁ W₁ => ?_;rw [if_pos rfl];exact any0 (S.ex _ _ _ _ _ _ e A s₁ ρ₁ env a0 W₁ (F.run W R₁)) fun _ _ h => PE.after R₁ h
  ·refine PT.use (S.tr _ _ _ _ _ _ h1 A s ρ env a0 W F) fun ρ₁ s₁ R₁ W₁ => ?_;rw [if_neg (by decide)];exact any0 (S.ex _ _ _ _ _ _ e A s₁ ρ₁ env a0 W₁ (F.run W R₁)) fun _ _ h => PE.after R₁ h
 case Call f as ks pos =>
  cases ks with
  | cons _ _ => cases f <;> cases e
  | nil =>
   cases f
   case Name y q => exact s_Call G S a0 e W F
   case Attribute o y q => exact s_Call_attr G S a0 e W F
   all_goals first | exact nn e | cases e
 case Attribute => exact s_Attr G S.ex a0 e W F
 case Subscript => exact s_Sub G S.ex a0 e W F
 case ListComp elt gs sc pos =>
  refine el31 (exD_comp_inv e) fun t iter ifs zr1 => ?_;subst zr1;exact s_ListComp S a0 e W F
 all_goals first | exact nn e | cases e
end
end Mine
end

-- ZA
section
namespace Mine
section
variable {prog : Program} {w : World} {B : Heap} {ge : GE} {K : Frag} {ρ ρ' ρ₁ : List Addr} {H : AH} {env : Env} {nm : Nms} {loc : Loc} {s s' s₁ s₂ : Shared} {A : Around} {p : Ev} {n : Nat} {X Y Z : Addr → Prop}
theorem AOk.deeper (a : AOk (n + 1) A) (env : Env) : AOk n (A.deeper env) :=
 ⟨a.hd, a.gd, by have := a.dp; show A.depth + 1 + 2 * n < 990; omega, by have := a.un; show A.units + 3 + 10 * n < 9000; omega⟩
theorem bindL_at {k : Str → Option NameKind} {x : Str} (hk : k x = some .local) : ∀ {binds : List (Str × Value)} {m : Str → Option Value}, (binds.map (·.1)).Nodup → bindL k binds m x = (match binds.lookup x with | some v => some v | none => m x)
 | [], _, _ => rfl
 | (y, v) :: r, m, hn => by
  rw [List.map_cons, List.nodup_cons] at hn;unfold bindL;rw [bindL_at hk hn.2, List.lookup_cons]
  by_cases hxy : x = y
  ·subst hxy
   have : r.lookup x = none := by
    cases e : r.lookup x with
    | none => rfl
    | some u => exact absurd (List.mem_map.mpr ⟨_, mem_of_lookup e, rfl⟩) hn.1
   rw [this];simp [hk]
  ·have : (x == y) = false := by simpa using hxy
   rw [this]
   cases r.lookup x with
   | some u => rfl
   | none =>
    dsimp only
    split
    ·exact if_neg hxy
    ·rfl
theorem bindC_at {k : Str → Option NameKind} {x : Str} (hk : k x ≠ some .local) : ∀ {binds : List (Str × Value)} {m : Str → Option Value}, (binds.map (·.1)).Nodup → bindC k binds m x = (match binds.lookup x with | some v => some v | none => m x)
 | [], _, _ => rfl
 | (y, v) :: r, m, hn => by
  rw [List.map_cons, List.nodup_cons] at hn;unfold bindC;rw [bindC_at hk hn.2, List.lookup_cons]
  by_cases hxy : x = y
  ·subst hxy
   have : r.lookup x = none := by
    cases e : r.lookup x with
    | none => rfl
    | some u => exact absurd (List.mem_map.mpr ⟨_, mem_of_lookup e, rfl⟩) hn.1
   rw [this];simp [hk]
  ·have : (x == y) = false := by simpa using hxy
   rw [this]
   cases r.lookup x with
   | some u => rfl
   | none =>
    dsimp only
    split
    ·rfl
    ·exact if_neg hxy
set_option tactic.hygienic true in
theorem zip_look {h : Heap} : ∀ {xs : List Str} {vs : List Value} {ds : List D} {x : Str} {d : D}, VL B ρ h vs ds → (xs.zip ds).lookup x = some d → ∃ v, (xs.zip vs).lookup x = some v ∧ V B ρ h v d
 | [], _, _, _, _, _, e => by simp at e
 | y :: xs, _, _, x, d, .nil, e => by simp at e
 | y :: xs, _, _, x, d, .cons hv hr, e => by
  rw [List.zip_cons_cons, List.lookup_cons] at e ⊢
  split at e
  ·rename_i hb;revert d;refine sm1 ?_;exact in12 _ rfl hv
  ·rename_i hb;exact zip_look hr e
theorem loc_look {names : Nms} {g : Str → Option D} {x : Str} {d : D} (h : look ((names.filter fun x => isOwn (some x.2)).map fun x => (x.1, g x.1)) x = some d) : g x = some d := by
 unfold look at h
 cases e : ((names.filter fun x => isOwn (some x.2)).map fun x => (x.1, g x.1)).lookup x with
 | none => rw [e] at h; exact nn h
 | some o =>
  rw [e] at h;refine el12 (List.mem_map.mp (mem_of_lookup e)) fun z O hz => ?_;cases hz;exact h
set_option tactic.hygienic true in
theorem callF_spec {f : Fn} {args : List D} {d : D} {H' : AH} (e : callF ge p f args H = some (d, H')) : args.length ≤ f.params.length ∧ f.params.length ≤ args.length + f.dfl.length ∧
  ∃ fl loc', stsL (p.st f.names) f.body ((f.names.filter fun x => isOwn (some x.2)).map fun x => (x.1, (f.params.zip (args ++ f.dfl.drop (f.dfl.length - (f.params.length - args.length)))).lookup x.1)) H = some (fl, loc', H') ∧ d = (match fl with | .ret d => d | .next => .none) := by
 revert e;refine ifs fun hc e => ?_
 ·simp only [Bool.and_eq_true, decide_eq_true_eq] at hc;dsimp only at e
  split at e
  ·rename_i h; cases e; exact ⟨hc.1, hc.2, _, _, h, rfl⟩
  ·rename_i h; cases e; exact ⟨hc.1, hc.2, _, _, h, rfl⟩
  ·exact nn e
theorem s_func {a : Addr} {f : Fn} {args : List D} {vs : List Value} {d : D} {H' : AH} (G : GOk prog w B ge K) (S : Snd prog w B p n) (a0 : AOk (n + 1) A) (hf : ge.fn a = some f) (e : callF ge p f args H = some (d, H')) (W : WR prog w B ρ H s.heap) (x : VL B ρ s.heap vs args) :
  codeAny (model prog w) A (.call (.ref a) ⟨vs, []⟩) (wants (PE prog w B ρ s H' d) F0) s := by
 refine el03 (callF_spec e) fun l1 l2 zq1 => ?_;refine el22 zq1 fun fl loc' hb hd => ?_;clear zq1;have FN := G.fns a f hf;refine el2xc (FN.ex) fun o fd ho hdata hbody hk hco hgen hnames hgl hbu hclo hcd hbind => ?_;have hvl := x.length;refine el12 (hbind A.in1 (fun e s' => wants (PE prog w B ρ s H' d) F0 (.error e) s') s vs W.base (by rw [hvl]; exact l1) (by rw [hvl]; exact l2)) fun dv xdv hB => ?_
 have full : VL B ρ s.heap (vs ++ dv) (args ++ f.dfl.drop (f.dfl.length - (f.params.length - args.length))) := by
  rw [hvl] at xdv;have := (xdv.mono (new := ρ) (h' := s.heap) fun b o e O => W.base b o e);exact x.append (by simpa using this)
 refine codeAny_call_function (by have := a0.dp; show A.depth < 1000; omega) (W.base _ _ ho) hdata hco hgen hbody (hcd.keeps W.base) (hB _ ?_);rw [hclo]
 have kindN : ∀ y, isOwn (f.names.lookup y) = true → fd.scope.names.lookup y = some .local ∨ (fd.scope.names.lookup y = some .cell ∧ ((cellsFrom (s.heap.objs.size + 1) fd.scope.names []).lookup y).isSome = true) := by
  intro y hy;rw [hnames];rcases own_kind hy with h | h
  ·exact .inl h
  ·exact .inr ⟨h, cellsFrom_some (.inl (mem_of_lookup h))⟩
 refine wpAny_newFunctionEnv_cells hk (fun y hy => kindN y.1 (FN.par _ (List.of_mem_zip hy).1)) fun env he s₁ IC => ?_;have keepS : ∀ b o, s.heap.get? b = some o → s₁.heap.get? b = some o := IC.toInCall.keep;refine ⟨G.nol.keeps fun b o e => keepS b o (W.base b o e), codeAny_func ?_⟩;refine el21 (IC.toInCall.same) fun h₁ tk hs₁ => ?_
 have hL : env.locals = s.heap.objs.size := by rw [he]; rfl
 have hcells : env.cells = cellsFrom (s.heap.objs.size + 1) f.names [] := by rw [he, ← hnames]; rfl
 have hkind : ∀ y, env.kindOf y = f.names.lookup y := fun y => by rw [he, ← hnames]; rfl
 have dead : ∀ a, s.heap.objs.size ≤ a → s.heap.get? a = none := fun a ha => by
  cases q : s.heap.get? a with
  | none => rfl
  | some o => exact absurd (Heap.lt_size q) (Nat.not_lt.mpr ha)
 have im : Imm s.heap s₁.heap := fun b o e O => keepS b o e;have W1 : WR prog w B ρ H s₁.heap := W.keep keepS;have full1 := full.mono0 im
 have hnd : ((f.params.zip (vs ++ dv)).map (·.1)).Nodup := by
  have hlen := full.length;rw [List.map_fst_zip]
  ·exact FN.pnd
  ·rw [hlen, List.length_append, List.length_drop, Nat.sub_sub_self (Nat.sub_le_iff_le_add'.2 (by assumption)), Nat.add_sub_of_le (by assumption)]; exact Nat.le_refl _
 have F1 : FR B ρ s₁.heap env f.names ((f.names.filter fun x => isOwn (some x.2)).map fun x => (x.1, (f.params.zip (args ++ f.dfl.drop (f.dfl.length - (f.params.length - args.length)))).lookup x.1)) := by
  refine ⟨by rw [he]; exact hk, by rw [he]; exact hgl, by rw [he]; exact hbu, fun y => by rw [hkind], fun y hy => by rw [hkind]; exact hy, ⟨_, IC.toInCall.ns, fun y d hy hl => ?_⟩, ?_, ?_, fun y hy => ?_, fun y z b hy hz ey ez => ?_⟩
  ·refine el12 (zip_look full1 (loc_look (g := fun y => (f.params.zip (args ++ f.dfl.drop (f.dfl.length - (f.params.length - args.length)))).lookup y) hl)) fun v q1 q2 => ?_;refine in12 v ?_ q2;rw [bindL_at (by rw [hkind]; exact hy) hnd, q1]
  ·rw [hL]; exact dead_ρ W (dead _ (Nat.le_refl _))
  ·rw [hL]; exact dead_B W (dead _ (Nat.le_refl _))
  ·have hc : f.names.lookup y = some .cell := by
    cases q : f.names.lookup y with
    | none => rw [q] at hy; exact ff hy
    | some k =>
     rw [q] at hy
     cases k <;> first | (cases hy; done) | rfl | exact absurd (mem_of_lookup q) (FN.nofree y)
   refine el11 (Option.isSome_iff_exists.mp (cellsFrom_some (n := s.heap.objs.size + 1) (acc := []) (.inl (mem_of_lookup hc)))) fun c hc2 => ?_;rw [← hcells] at hc2;have habove := IC.above y c (mem_of_lookup hc2);rw [hL] at habove;have hdead := dead c (Nat.le_of_lt habove);refine in25 c _ hc2 (IC.cell y c hc2) (dead_ρ W hdead) (dead_B W hdead) (fun d hl => ?_);refine el12 (zip_look full1 (loc_look (g := fun y => (f.params.zip (args ++ f.dfl.drop (f.dfl.length - (f.params.length - args.length)))).lookup y) hl)) fun v q1 q2 => ?_;refine in12 v ?_ q2;rw [bindC_at (by rw [hkind, hc]; decide) hnd, q1]
  ·exact name_of_addr IC.apart (mem_of_lookup ey) (mem_of_lookup ez)
 refine any0 (s_sts S.st (a0.deeper env) hb W1 F1) fun fw s₂ h => ?_;refine el14 h fun ρ₂ R W2 F2 q => ?_;clear h
 have ownDead : ∀ b, Own env f.names b → s.heap.get? b = none := by
  rintro b (rfl | ⟨y, hy, hc⟩)
  ·rw [hL]; exact dead _ (Nat.le_refl _)
  ·have := IC.above y b (mem_of_lookup hc);rw [hL] at this;exact dead b (Nat.le_of_lt this)
 have R' : Run ρ (fun O => False) s ρ₂ s₂ := by
  have R0 : Run ρ (Own env f.names) s ρ s₁ := by
   rw [hs₁]
   exact Run.keep fun b o e => by have := keepS b o e; rw [hs₁] at this; exact this
  exact (R0.trans R).fresh fun b hb => .inr (ownDead b hb)
 cases q with
 | next => subst hd; exact ⟨ρ₂, R', W2, .none⟩
 | ret xv => subst hd; exact ⟨ρ₂, R', W2, xv⟩
end
end Mine
end

-- ZB
section
namespace Mine
section
noncomputable def Safe (n : Nat) {α : Type} (Q : α → Prop) : KasT α → Prop
 | .ret a => Q a
 | .ask i j k => i < n ∧ j < n ∧ ∀ b, Safe n Q (k b)
variable {n : Nat}
theorem Safe.bind {α β : Type} {Q : α → Prop} {R : β → Prop} {f : α → KasT β} : ∀ {t : KasT α}, Safe n Q t → (∀ a, Q a → Safe n R (f a)) → Safe n R (t.bind f)
 | .ret a, h, hf => hf a h
 | .ask i j k, h, hf => ⟨h.1, h.2.1, fun b => Safe.bind (h.2.2 b) hf⟩
noncomputable def InR (n : Nat) (p : Array Nat) : Prop := p.size = n ∧ ∀ x ∈ p, x < n
set_option tactic.hygienic true in
theorem InR.at {p : Array Nat} (h : InR n p) (hn : 0 < n) (i : Nat) : p.getD i 0 < n := by
 unfold Array.getD
 split
 ·rename_i hi; exact h.2 _ (by simp)
 ·exact hn
theorem InR.perm {p q : Array Nat} (h : InR n p) (e : q.Perm p) : InR n q := ⟨by rw [e.size_eq]; exact h.1, fun x hx => h.2 x (e.mem_iff.mp hx)⟩
theorem InR.rev {p : Array Nat} (h : InR n p) (i j : Nat) : InR n (kas_rev p i j) := h.perm (mirror_perm ..)
theorem InR.bub {p : Array Nat} (h : InR n p) (i j : Nat) : InR n (bubble p i j) := h.perm (bubble_perm ..)
theorem safe_asc {p : Array Nat} (h : InR n p) (hn : 0 < n) : ∀ (f k : Nat), Safe n (fun _ => True) (kas_asc p f k)
 | 0, _ => trivial
 | f + 1, k => ⟨h.at hn _, h.at hn _, fun b => by
   show Safe n _ (if b = true then _ else _)
   split
   ·trivial
   ·exact safe_asc h hn f (k + 1)⟩
theorem safe_desc (hn : 0 < n) : ∀ (f : Nat) (p : Array Nat) (k q : Nat), InR n p → Safe n (fun r => InR n r.1) (kas_desc f p k q)
 | 0, p, _, _, h => h
 | f + 1, p, k, q, h => ⟨h.at hn _, h.at hn _, fun b => by
   show Safe n _ (if b = true then _ else _)
   split
   ·split
    ·exact safe_desc hn f _ _ _ (h.rev _ _)
    ·exact safe_desc hn f _ _ _ h
   ·exact ⟨h.at hn _, h.at hn _, fun b => by
     show Safe n _ (if b = true then _ else _)
     split
     ·exact h
     ·exact safe_desc hn f _ _ _ h⟩⟩
theorem safe_tail3 (hn : 0 < n) {p : Array Nat} (h : InR n p) (a b : Nat) : Safe n (fun r => InR n r.2) (kas_tail3 a b p) := (safe_asc (h.rev _ _) hn _ _).bind fun O O => h.rev _ _
theorem safe_descPart (hn : 0 < n) {p : Array Nat} (h : InR n p) (a b : Nat) : Safe n (fun r => InR n r.2) (kas_descPart a b p) := (safe_desc hn _ _ _ _ h).bind fun r hr => by
 split
 ·exact safe_tail3 hn (hr.rev _ _) _ _
 ·exact safe_tail3 hn hr _ _
theorem safe_count (hn : 0 < n) {p : Array Nat} (h : InR n p) (b : Nat) : Safe n (fun r => InR n r.2) (kas_count b p) := (safe_asc h hn _ _).bind fun r hr => by
 split
 ·exact h
 ·split
  ·exact ⟨h.at hn _, h.at hn _, fun c => by
    show Safe n _ (if c = true then _ else _)
    split
    ·exact h
    ·exact safe_descPart hn (h.rev _ _) _ _⟩
  ·exact safe_descPart hn h _ _
theorem safe_place (hn : 0 < n) {p : Array Nat} (h : InR n p) (k : Nat) : ∀ (f l r : Nat), Safe n (fun _ => True) (kas_place p k f l r)
 | 0, _, _ => trivial
 | f + 1, l, r => by
  unfold kas_place
  split
  ·trivial
  ·exact ⟨h.at hn _, h.at hn _, fun c => by
    show Safe n _ (if c = true then _ else _)
    split
    ·exact safe_place hn h k f _ _
    ·exact safe_place hn h k f _ _⟩
theorem safe_bin (hn : 0 < n) : ∀ (f : Nat) (p : Array Nat) (k : Nat), InR n p → Safe n (InR n) (kas_bin f p k)
 | 0, _, _, h => h
 | f + 1, p, k, h => (safe_place hn h k _ _ _).bind fun l _ => safe_bin hn f _ _ (h.bub _ _)
theorem safe_sort (hn : 0 < n) : Safe n (InR n) (kas_sort n) := (safe_count hn (p := List.toArray (List.range n)) ⟨by simp, fun x hx => by simpa using hx⟩ n).bind fun r hr => by
 split
 ·exact safe_bin hn _ _ _ hr
 ·exact hr
theorem run_safe {α : Type} {Q : α → Prop} {c : Nat → Nat → Bool} : ∀ {t : KasT α}, Safe n Q t → Q (kasRun c t)
 | .ret a, h => h
 | .ask i j k, h => by
  show Q (kasRun c (k (c i j)))
  exact run_safe (h.2.2 _)
theorem kasWp_run {α : Type} {cmp : Nat → Nat → (Bool → Shared → Prop) → Shared → Prop} {c : Nat → Nat → Bool} {J : Shared → Prop} {Q : α → Prop} {G : α → Shared → Prop} (hc : ∀ i j s (C : Bool → Shared → Prop), i < n → j < n → J s → (∀ s', J s' → C (c i j) s') → cmp i j C s) :
  ∀ {t : KasT α} {s : Shared}, Safe n Q t → J s → (∀ s', J s' → G (kasRun c t) s') → t.kasWp cmp G s
 | .ret a, s, _, hj, hG => hG s hj
 | .ask i j k, s, h, hj, hG => hc i j s _ h.1 h.2.1 hj fun s' hj' => kasWp_run hc (h.2.2 _) hj' hG
end
section
variable {prog : Program} {w : World} {A : Around} {E : Value → Shared → Prop} {s : Shared} {vs : List Value} {a : Addr}
noncomputable abbrev But (a : Addr) (h h' : Heap) : Prop := ∀ b o, b ≠ a → h.get? b = some o → h'.get? b = some o
theorem list_sort_any {n : Nat} {P : PySem.Fin → Shared → Prop} {R : Array Nat → Prop} (ho : s.heap.get? a = some (seqObj "list" vs.toArray n)) (h64 : vs.length < 64)
  (hask : 2 ≤ vs.length → ∀ h', But a s.heap h' → wpAny (model prog w) A (keyKind' vs.toArray) (fun κ s' => (kas_sort vs.length).kasWp (kas_ask prog w A κ vs) (fun p s'' => (∃ tk, s'' = { s with heap := h', toks := tk }) ∧ R p) s') (fun _ _ => False) { s with heap := h' })
  (hQ : ∀ (out : List Value) h' tk c, (vs.length < 2 ∧ out = vs ∨ 2 ≤ vs.length ∧ ∃ p, R p ∧ out = p.toList.map fun i => vs.getD i Value.none) → But a s.heap h' → h'.get? a = some (seqObj "list" out.toArray c) → P (.done (.ret .none)) { s with heap := h', toks := tk }) :
  wpAny (model prog w) A (Builtin.«list.sort» ⟨[.ref a], []⟩) P E s := by
 have ha : a < s.heap.objs.size := Heap.lt_size ho;have s1 := Heap.SameBut.update s.heap a (Obj.mapSeq fun _ => (#[] : Array Value));obtain ⟨e1, ho1⟩ : ∃ e1, (s.heap.update a (Obj.mapSeq fun _ => (#[] : Array Value))).get? a = some (seqObj "list" #[] e1) := ⟨_, get?_update_seq ho fun _ => #[]⟩;have hb : But a s.heap (((s.heap.update a (Obj.mapSeq fun _ => (#[] : Array Value))).push (seqObj "tuple" vs.toArray 0)).push (seqObj "list" #[] 0)) := fun b o hb e => Heap.get?_push_of_some _ (Heap.get?_push_of_some _ ((s1.2 b hb).trans e));have ho3 : (((s.heap.update a (Obj.mapSeq fun _ => (#[] : Array Value))).push (seqObj "tuple" vs.toArray 0)).push (seqObj "list" #[] 0)).get? a = some (seqObj "list" #[] e1) := Heap.get?_push_of_some _ (Heap.get?_push_of_some _ ho1);rw [list_sort_plain];refine wpAny_bind (listItems_at ho rfl ?_);refine wpAny_bind (listUpdate_at ho rfl ?_ (by rw [List.size_toArray, sizeLine_eq]; exact ln1 145252941848001 94212116801 [_] [] h64) (Nat.zero_le _));refine wpAny_bind (seqEpoch_at ho1 rfl ?_);refine wpAny_bind (wpAny_newTuple ?_ (by show vs.length ≤ _; rw [sizeLine_eq]; exact ln1 145252941848001 94212116801 [_] [] h64));refine wpAny_bind (wpAny_newList ?_ (Nat.zero_le _));refine wpAny_holding ?_
 show wpAny (model prog w) A _ P E { s with heap := ((s.heap.update a (Obj.mapSeq fun _ => (#[] : Array Value))).push (seqObj "tuple" vs.toArray 0)).push (seqObj "list" #[] 0) }
 dsimp only
 have fill : ∀ (h' : Heap) (tk : Nat) (out : List Value), out.length ≤ 64 → But a s.heap h' → h'.get? a = some (seqObj "list" #[] e1) → (vs.length < 2 ∧ out = vs ∨ 2 ≤ vs.length ∧ ∃ p, R p ∧ out = p.toList.map fun i => vs.getD i Value.none) →
   P (.done (.ret .none)) { s with heap := h'.update a (Obj.mapSeq fun _ => out.toArray), toks := tk } := by
  intro h' tk out hz hk hoa hc;have s2 := Heap.SameBut.update h' a (Obj.mapSeq fun _ => out.toArray);obtain ⟨c2, hc2⟩ : ∃ c2, (h'.update a (Obj.mapSeq fun _ => out.toArray)).get? a = some (seqObj "list" out.toArray c2) := ⟨_, get?_update_seq hoa fun _ => out.toArray⟩;exact hQ out _ tk c2 hc (fun b o hb e => (s2.2 b hb).trans (hk b o hb e)) hc2
 by_cases h2 : vs.toArray.size < 2
 ·rw [if_pos h2, if_pos h2];refine wpAny_bind (wpAny_pure ?_);rw [StateT.run_pure];refine wpAny_bind (wpAny_pure ?_);dsimp only
  have hz : vs.length < 2 := by rw [List.size_toArray] at h2; exact h2
  refine wpAny_bind (seqEpoch_at ho3 rfl ?_)
  have hout : ((arrOf (SortSt.mk' general' (vs.toArray.zip vs.toArray) #[] 7 none)).map (·.2)) = vs.toArray := by
   show (vs.toArray.zip vs.toArray).map (·.2) = vs.toArray
   apply Array.toList_inj.mp;simp [List.map_snd_zip]
  refine wpAny_bind (listUpdate_at ho3 rfl ?_ (Nat.zero_le _) (by
   show ((arrOf (SortSt.mk' general' (vs.toArray.zip vs.toArray) #[] 7 none)).map (·.2)).size ≤ _
   rw [hout, List.size_toArray, sizeLine_eq]; exact ln1 9395595928141848001 94212116801 [_] [] h64))
  simp only [bne_self_eq_false, Bool.false_eq_true, if_false];refine wpAny_pure ?_;have := fill _ s.toks vs (by exact ln1 90116116801 94212116801 [_] [] h64) hb ho3 (.inl ⟨hz, rfl⟩)
  show P (.done (.ret .none)) { s with heap := (((s.heap.update a (Obj.mapSeq fun _ => (#[] : Array Value))).push (seqObj "tuple" vs.toArray 0)).push (seqObj "list" #[] 0)).update a (Obj.mapSeq fun _ => (arrOf (SortSt.mk' general' (vs.toArray.zip vs.toArray) #[] 7 none)).map (·.2)) }
  rw [hout];exact this
 ·have hz : 2 ≤ vs.length := by rw [List.size_toArray] at h2; exact ln1 56323761 56323761 [_] [] (Nat.le_of_not_lt h2)
  rw [if_neg h2, if_neg h2];refine wpAny_bind (wpAny_mono (hask hz _ hb) (fun κ s0 hk => ?_) fun _ _ x => x.elim)
  refine wpAny_bind (wpAny_mono (kat_run (Q := fun st' s' => ∃ p : Array Nat, p.size = vs.length ∧ arrOf st' = p.map (kas_item (vs.toArray.zip vs.toArray)) ∧ failedOf st' = none ∧ (∃ tk, s' = { s with heap := ((s.heap.update a (Obj.mapSeq fun _ => (#[] : Array Value))).push (seqObj "tuple" vs.toArray 0)).push (seqObj "list" #[] 0), toks := tk }) ∧ R p)
   rfl hz h64 (fun p' st' s' a1 a2 a3 a4 => ⟨p', a1, a2, a3, a4⟩) hk) ?_ fun _ _ e => e)
  rintro ⟨⟨⟩, st'⟩ s' ⟨p, hp, har, hf, ⟨tk, rfl⟩, hR⟩
  dsimp only;have hout := kat_snds rfl har
  have hsz : (p.toList.map fun i => vs.getD i Value.none).length = vs.length := by rw [List.length_map, Array.length_toList, hp]
  rw [hout];refine wpAny_bind (seqEpoch_at ho3 rfl ?_);refine wpAny_bind (listUpdate_at ho3 rfl ?_ (Nat.zero_le _) (by rw [List.size_toArray, hsz, sizeLine_eq]; exact ln1 9395595928141848001 94212116801 [_] [] h64));rw [hf];simp only [bne_self_eq_false, Bool.false_eq_true, if_false];exact wpAny_pure (fill _ tk _ (by exact ln2 90116116801 94212116841 1537601 [_,_] [] h64 hsz) hb ho3 (.inr ⟨hz, p, hR, rfl⟩))
end
end Mine
end

-- ZC
section
namespace Mine
section
theorem uniq {α : Type} {R : α → α → Prop} (anti : ∀ a b, R a b → R b a → a = b) : ∀ {l₁ l₂ : List α}, l₁.Perm l₂ → l₁.Pairwise R → l₂.Pairwise R → l₁ = l₂
 | [], l₂, p, _, _ => (List.nil_perm.mp p).symm
 | a :: l₁, [], p, _, _ => absurd (List.perm_nil.mp p) (by simp)
 | a :: l₁, b :: l₂, p, h₁, h₂ => by
  rw [List.pairwise_cons] at h₁ h₂
  have hab : a = b := by
   have ha : a ∈ b :: l₂ := p.mem_iff.mp List.mem_cons_self;have hb : b ∈ a :: l₁ := p.mem_iff.mpr List.mem_cons_self;rcases List.mem_cons.mp ha with rfl | ha
   ·rfl
   ·rcases List.mem_cons.mp hb with rfl | hb
    ·rfl
    ·exact anti a b (h₁.1 b hb) (h₂.1 a ha)
  subst hab
  rw [uniq anti (List.perm_cons _ |>.mp p) h₁.2 h₂.2]
theorem ltS_eq (a b : Str) : ltS a b = decide (a.cps.toList < b.cps.toList) := ltCps_eq ..
theorem ltS_irrefl (a : Str) : ltS a a = false := by rw [ltS_eq]; simp
theorem ltS_anti {a b : Str} (h1 : ltS b a = false) (h2 : ltS a b = false) : a = b := by
 rw [ltS_eq, decide_eq_false_iff_not] at h1 h2;have h := List.le_antisymm (List.not_lt.mp h1) (List.not_lt.mp h2);cases a; cases b;simpa using h
theorem ltS_trans {a b c : Str} (h1 : ltS b a = false) (h2 : ltS c b = false) : ltS c a = false := by
 rw [ltS_eq, decide_eq_false_iff_not] at *;exact List.not_lt.mpr (List.le_trans (List.not_lt.mp h1) (List.not_lt.mp h2))
theorem ltS_asymm {a b : Str} (h : ltS a b = true) : ltS b a = false := by
 rw [ltS_eq, decide_eq_true_eq] at h;rw [ltS_eq, decide_eq_false_iff_not];exact List.lt_asymm h
theorem insS_perm (a : Str) : ∀ l, (insS a l).Perm (a :: l)
 | [] => .refl _
 | b :: r => by
  unfold insS
  split
  ·exact ((insS_perm a r).cons b).trans (.swap ..)
  ·exact .refl _
set_option tactic.hygienic true in
theorem insS_sorted (a : Str) : ∀ {l : List Str}, l.Pairwise (fun a b => ltS b a = false) → (insS a l).Pairwise fun a b => ltS b a = false
 | [], _ => by simp [insS]
 | b :: r, h => by
  rw [List.pairwise_cons] at h;unfold insS
  split
  ·rename_i hl;rw [List.pairwise_cons];refine ⟨fun x hx => ?_, insS_sorted a h.2⟩;rcases List.mem_cons.mp ((insS_perm a r).mem_iff.mp hx) with rfl | hx
   ·exact ltS_asymm hl
   ·exact h.1 x hx
  ·rename_i hl;simp only [Bool.not_eq_true] at hl;rw [List.pairwise_cons];refine ⟨fun x hx => ?_, List.pairwise_cons.mpr h⟩;rcases List.mem_cons.mp hx with rfl | hx
   ·exact hl
   ·exact ltS_trans hl (h.1 x hx)
theorem srt_perm : ∀ l, (srt l).Perm l
 | [] => .refl _
 | a :: r => (insS_perm a _).trans ((srt_perm r).cons a)
theorem srt_sorted : ∀ l, (srt l).Pairwise fun a b => ltS b a = false
 | [] => .nil
 | a :: r => insS_sorted a (srt_sorted r)
theorem risingS_all : ∀ {l : List Str} {p : Str}, risingS p l = true → (p :: l).Pairwise fun a b => ltS b a = false
 | [], p, _ => by simp
 | x :: r, p, h => by
  unfold risingS at h;simp only [Bool.and_eq_true, Bool.not_eq_true'] at h;have ih := risingS_all h.2;rw [List.pairwise_cons];refine ⟨fun y hy => ?_, ih⟩;rcases List.mem_cons.mp hy with rfl | hy
  ·exact h.1
  ·exact ltS_trans (b := x) h.1 (List.rel_of_pairwise_cons ih hy)
theorem srt_uniq {l ss : List Str} (p : ss.Perm l) (h : sortedS ss = true) : ss = srt l := by
 refine uniq (fun a b h1 h2 => ltS_anti h1 h2) (p.trans (srt_perm l).symm) ?_ (srt_sorted l)
 cases ss with
 | nil => exact .nil
 | cons x r => exact risingS_all h
end
section
variable {prog : Program} {w : World} {B : Heap} {ge : GE} {K : Frag} {ρ ρ' ρ₁ : List Addr} {H : AH} {env : Env} {nm : Nms} {loc : Loc} {s s' s₁ s₂ : Shared} {A : Around} {p : Ev} {n : Nat} {X Y Z : Addr → Prop}
set_option tactic.hygienic true in
theorem strs_of {h : Heap} : ∀ {vs : List Value} {ds : List D} {xs : List Str}, VL B ρ h vs ds → omap strOf ds = some xs → StrsAre vs xs ∧ ∀ x ∈ xs, PyData.strOk x = true
 | _, _, xs, .nil, e => by cases e; exact ⟨.nil, fun _ h => by simp at h⟩
 | _, _, xs, .cons hv hr, e => by
  unfold omap at e
  split at e
  rotate_left
  ·cases e
  rename_i x hx
  ·split at e
   rotate_left
   ·cases e
   rename_i ys hy
   ·revert xs;refine sm1 ?_;refine el02 (strs_of hr hy) fun h1 h2 => ?_;unfold Mine.strOf at hx
    split at hx
    rotate_left
    ·cases hx
    ·have hx := (Option.some.inj hx).symm;subst hx;refine V.elim hv fun t hk zq => ?_;clear hv;subst zq;refine ⟨.cons x t h1, fun y hy => ?_⟩;rcases List.mem_cons.mp hy with rfl | hy
     ·exact hk
     ·exact h2 y hy
theorem strs_VL {h : Heap} : ∀ {vs : List Value} {xs : List Str}, StrsAre vs xs → (∀ x ∈ xs, PyData.strOk x = true) → VL B ρ h vs (xs.map .str)
 | _, _, .nil, _ => .nil
 | _, _, .cons x t r, hk => .cons (.str x t (hk x List.mem_cons_self)) (strs_VL r fun y hy => hk y (List.mem_cons_of_mem _ hy))
set_option tactic.hygienic true in
theorem s_sorted1 {ds : List D} {vs : List Value} {i : Nat} {xs : List Str} (W : WR prog w B ρ H s.heap) (hl : listAt H i = some ds) (hx : omap Mine.strOf ds = some xs) (h64 : xs.length < 64) (x : VL B ρ s.heap vs [.ref i]) :
  wpAny (model prog w) A (call (.builtin "sorted") vs) (PE prog w B ρ s (H ++ [.list ((srt xs).map .str)]) (.ref H.length)) F0 s := by
 cases x with
 | cons x r =>
 refine VL.elim r fun zq => ?_;clear r;subst zq;refine V.elim x fun _ hi zq => ?_;clear x;subst zq;rename_i a;refine el12 (W.list hl hi) fun us hp hv => ?_;refine el02 (strs_of hv hx) fun h1 h2 => ?_
 have hlen : us.toList.length = xs.length := by
  have := h1.strs;rw [← this, List.length_map]
 refine sorted_strs (vs := us.toList) (ss := xs) (by simpa using hp.isList) h1 (by exact ln2 94212116801 94212116841 1537601 [_,_] [] h64 hlen) fun out ss' a1 a2 a3 => ?_;have e := srt_uniq a2 a3;subst e;refine el11 (sortedAll_at s.heap us.toList out) fun m hm => ?_
 have hn : s.heap.get? (s.heap.objs.size + 1) = none := by
  cases q : s.heap.get? (s.heap.objs.size + 1) with
  | none => rfl
  | some o => exact absurd (Heap.lt_size q) (Nat.not_lt.mpr (Nat.le_succ _))
 exact W.newList (tk := s.toks) hn (fun b o e => sortedAll_old e) hm (strs_VL a1 fun y hy => h2 y ((srt_perm xs).mem_iff.mp hy))
end
end Mine
end

-- ZD
section
namespace Mine
section
variable {prog : Program} {w : World} {B : Heap} {ge : GE} {K : Frag} {ρ ρ' ρ₁ : List Addr} {H : AH} {env : Env} {nm : Nms} {loc : Loc} {s s' s₁ s₂ : Shared} {A : Around} {p : Ev} {n : Nat} {X Y Z : Addr → Prop}
structure Tups (h : Heap) (as : List Addr) (es : List (Str × D)) : Prop where
 len : as.length = es.length
 pair : ∀ (j : Nat) (k : Str) (d : D), es[j]? = some (k, d) → ∃ a t z u, as[j]? = some a ∧ d = .int z ∧ PyData.strOk k = true ∧ h.get? a = some { cls := .type "tuple", data := .seq #[.str k t, .int z u] }
theorem Tups.mono {h h' : Heap} {as : List Addr} {es : List (Str × D)} (T : Tups h as es) (hk : ∀ a ∈ as, ∀ o, h.get? a = some o → h'.get? a = some o) : Tups h' as es :=
 ⟨T.len, fun j k d hj => let ⟨a, t, z, u, h1, h2, h3, h4⟩ := T.pair j k d hj; ⟨a, t, z, u, h1, h2, h3, hk a (List.mem_of_getElem? h1) _ h4⟩⟩
theorem Tups.tail {h : Heap} {a : Addr} {as : List Addr} {e : Str × D} {es : List (Str × D)} (T : Tups h (a :: as) (e :: es)) : Tups h as es :=
 ⟨by simpa using T.len, fun j k d hj => by have := T.pair (j + 1) k d (by simpa using hj); simpa using this⟩
theorem Tups.VL {h : Heap} : ∀ {as : List Addr} {es : List (Str × D)}, Tups h as es → Mine.VL B ρ h (as.map Value.ref) (es.map pairOf)
 | [], [], _ => .nil
 | [], _ :: _, T => absurd T.len (by simp)
 | _ :: _, [], T => absurd T.len (by simp)
 | a :: as, (k, d) :: es, T => by
  refine el44 (T.pair 0 k d rfl) fun a' t z u h1 h2 h3 h4 => ?_;simp at h1;subst h1 h2;exact .cons (.tup h4 (.cons (.str k t h3) (.cons (.int z u) .nil))) (Tups.VL T.tail)
theorem Tups.kat {h : Heap} : ∀ {as : List Addr} {es : List (Str × D)}, Tups h as es → ∃ fs, KatTups h (as.map Value.ref) fs ∧ fs.length = as.length ∧ ∀ v ∈ fs, ∃ k t, v = .str k t
 | [], [], _ => ⟨[], KatTups.nil, rfl, fun _ h => nomatch h⟩
 | [], _ :: _, T => absurd T.len (by simp)
 | _ :: _, [], T => absurd T.len (by simp)
 | a :: as, (k, d) :: es, T => by
  refine el44 (T.pair 0 k d rfl) fun a' t z u h1 h2 h3 h4 => ?_;simp at h1;subst h1;refine el13 (Tups.kat T.tail) fun fs q1 q2 q3 => ?_;refine in13 (.str k t :: fs) (KatTups.cons h4 rfl rfl rfl q1) (by simp [q2]) (fun v hv => ?_);rcases List.mem_cons.mp hv with rfl | hv
  ·exact in21 k t rfl
  ·exact q3 v hv
theorem VL.getD {h : Heap} {vs : List Value} {ds : List D} (x : Mine.VL B ρ h vs ds) (i : Nat) : V B ρ h (vs.getD i Value.none) (ds.getD i .none) := by
 by_cases hi : i < ds.length
 ·refine el12 (x.get (List.getElem?_eq_getElem hi)) fun v h1 h2 => ?_;rw [List.getD_eq_getElem?_getD, List.getD_eq_getElem?_getD, h1, List.getElem?_eq_getElem hi];exact h2
 ·have hv : vs.length ≤ i := by rw [x.length]; exact ln1 1409601 1409601 [_,_] [] (Nat.le_of_not_lt hi)
  rw [List.getD_eq_getElem?_getD, List.getD_eq_getElem?_getD, List.getElem?_eq_none hv, List.getElem?_eq_none (by exact ln1 1409601 1409601 [_,_] [] (Nat.le_of_not_lt hi))];exact .none
theorem VL.pick {h : Heap} {vs : List Value} {ds : List D} (x : Mine.VL B ρ h vs ds) : ∀ (l : List Nat), Mine.VL B ρ h (l.map fun i => vs.getD i Value.none) (l.map fun i => ds.getD i .none)
 | [] => .nil
 | i :: l => .cons (VL.getD x i) (VL.pick x l)
theorem lt_tups {as : List Addr} {es : List (Str × D)} {i j : Nat} {C : Bool → Shared → Prop} (T : Tups s.heap as es) (hnd : (es.map (·.1)).Nodup) (hi : i < es.length) (hj : j < es.length) (hC : ∀ tk, C (ltS (keyAt es i) (keyAt es j)) { s with toks := tk }) :
  kas_ask prog w A (tuples' true) (as.map Value.ref) i j C s := by
 have at_ : ∀ k (hk : k < es.length), ∃ a t z u, (as.map Value.ref).getD k Value.none = .ref a ∧ keyAt es k = es[k].1 ∧ es[k].2 = .int z ∧ s.heap.get? a = some { cls := .type "tuple", data := .seq #[.str es[k].1 t, .int z u] } := by
  intro k hk;refine el44 (T.pair k es[k].1 es[k].2 (List.getElem?_eq_getElem hk)) fun a t z u h1 h2 h3 h4 => ?_;refine in44 a t z u ?_ ?_ h2 h4
  ·rw [List.getD_eq_getElem?_getD, List.getElem?_map, h1]; rfl
  ·unfold keyAt; rw [List.getD_eq_getElem?_getD, List.getElem?_eq_getElem hk]; rfl
 refine el44 (at_ i hi) fun a t z u h1 h2 h3 h4 => ?_;refine el44 (at_ j hj) fun b t' z' u' g1 g2 g3 g4 => ?_;unfold kas_ask;rw [h1, g1];rw [h2, g2] at hC;refine kat_lt h4 rfl g4 rfl ?_
 show KatLex prog w A true _ _ [(.str es[i].1 t, .str es[j].1 t'), (.int z u, .int z' u')] 0 s
 refine kat_cons (eqBool_str ?_)
 by_cases he : es[i].1 = es[j].1
 ·have hij : i = j := by
   have h5 : (es.map (·.1))[i]? = (es.map (·.1))[j]? := by
    rw [List.getElem?_map, List.getElem?_map, List.getElem?_eq_getElem hi, List.getElem?_eq_getElem hj, Option.map_some, Option.map_some, he]
   exact (List.getElem?_inj (by simpa using hi) hnd).mp h5
  subst hij;rw [h3] at g3;cases g3;rw [show (es[i].1 == es[i].1) = true by simp];refine kat_yes (kat_cons (wpAny_eqBool_int ?_));rw [show (z == z) = true by simp];refine kat_yes (kat_nil ?_);have := hC s.toks;rw [ltS_irrefl] at this;exact this
 ·have hb : (es[i].1 == es[j].1) = false := by simpa using he
  rw [hb];refine kat_no ?_
  show wpAny (model prog w) A (oneLt' true (.str es[i].1 t) (.str es[j].1 t')) C _ s
  refine oneLt_str ?_;have := hC s.toks;rw [ltS_eq] at this;exact this
theorem ask_tups {as : List Addr} {es : List (Str × D)} (T : Tups s.heap as es) (hnd : (es.map (·.1)).Nodup) (h2 : 2 ≤ es.length) :
  wpAny (model prog w) A (keyKind' (as.map Value.ref).toArray) (fun κ s' => (kas_sort (as.map Value.ref).length).kasWp (kas_ask prog w A κ (as.map Value.ref)) (fun p s'' => (∃ tk, s'' = { s with toks := tk }) ∧ p = kasRun (fun i j => ltS (keyAt es i) (keyAt es j)) (kas_sort es.length)) s') (fun _ _ => False) s := by
 refine el13 (T.kat) fun fs q1 q2 q3 => ?_;have hlen := T.len;refine kat_kind (T := .type "str") q1 (by exact ln3 58880561 56387761 1603201 1601681 [_,_,_] [] h2 q2 hlen) (fun v hv => ?_) rfl ?_
 ·refine el21 (q3 v hv) fun k t zr1 => ?_;subst zr1;exact Looks.of_pure rfl
 ·rw [show (Value.type "str" != Value.type "tuple") = true from rfl];rw [List.length_map, hlen]
  refine kasWp_run (n := es.length) (c := fun i j => ltS (keyAt es i) (keyAt es j)) (J := fun s'' => ∃ tk, s'' = { s with toks := tk }) (fun i j s' C hi hj hJ hC => ?_) (safe_sort (by exact ln1 58880561 56323761 [_] [] h2)) ⟨s.toks, rfl⟩ fun s' hJ => ⟨hJ, rfl⟩
  refine el11 hJ fun tk zr1 => ?_;clear hJ;subst zr1
  exact lt_tups (s := { s with toks := tk }) T hnd hi hj fun tk' => hC _ ⟨tk', rfl⟩
set_option tactic.hygienic true in
theorem s_sorted2 {es : List (Str × D)} {vs : List Value} {i : Nat} (a0 : A.handled = none) (W : WR prog w B ρ H s.heap) (hl : dictAt H i = some es) (h64 : es.length < 64) (hint : es.all (fun e => isIntD e.2) = true) (x : VL B ρ s.heap vs [.items i]) :
  wpAny (model prog w) A (call (.builtin "sorted") vs) (PE prog w B ρ s (H ++ [.list (srtE es)]) (.ref H.length)) F0 s := by
 cases x with
 | cons x r =>
 refine VL.elim r fun zq => ?_;clear r;subst zq;refine V.elim x fun _ _ ho hi zq => ?_;clear x;subst zq;rename_i a d;refine el12 (W.dict hl hi) fun kvs hd hE => ?_;refine el11 (dictAt_of hd) fun ep hat => ?_;have hlen := hE.length;refine call_function_entry kind_sorted plain_sorted entry_sorted (args_sorted1 _) ?_;unfold Builtin.«sorted»;refine wpAny_bind (m := checkCount "sorted" 1 1 _) (wpAny_pure ?_);refine wpAny_bind (kdx_collect (A := A.in1) (knd := strKind prog w) (kvs := kvs) (ep := ep) a0 ⟨_, ho, rfl, rfl⟩ hat (by rw [hlen, sizeLine_eq]; exact ln1 145252941848001 94212116801 [_] [] h64) fun h' tk as hk hal hG => ?_);refine wpAny_bind (wpAny_newList ?_ (by rw [List.length_map, hal, hlen, sizeLine_eq]; exact ln1 145252941848001 94212116801 [_] [] h64));dsimp only
 have hnd : (es.map (·.1)).Nodup := by
  have h1 : kvs.map (·.1) = es.map (·.1) := by
   clear hG hat hd hlen hal hl h64 hint
   induction hE with
   | nil => rfl
   | cons hk hv _ ih => rw [List.map_cons, List.map_cons, ih]
  rw [← h1]; exact DictOf.nd hd
 have T : Tups h' as es := by
  refine ⟨by rw [hal, hlen], fun j k d hj => ?_⟩
  have key : ∀ {kvs : List (Str × Value)} {es : List (Str × D)}, EL B ρ s.heap kvs es → ∀ {j : Nat} {k : Str} {d : D}, es[j]? = some (k, d) → ∃ v, kvs[j]? = some (k, v) ∧ PyData.strOk k = true ∧ V B ρ s.heap v d := by
   intro kvs es hE
   induction hE with
   | nil => intro j k d h; simp at h
   | cons hk' hv _ ih =>
    intro j k d h
    cases j with
    | zero => simp at h; refine el02 h fun zr1 zr2 => ?_; clear h; subst zr1; subst zr2; exact ⟨_, rfl, hk', hv⟩
    | succ j => simpa using ih (by simpa using h)
  refine el13 (key hE hj) fun v h1 h2 h3 => ?_
  have hjl : j < as.length := by rw [hal]; exact (List.getElem?_eq_some_iff.mp h1).1
  refine el33 (hG.pairs j as[j] (List.getElem?_eq_getElem hjl)) fun ky k' x' e1 e2 e3 => ?_;rw [h1] at e1;cases e1;have hd' : isIntD d = true := (List.all_eq_true.mp hint) _ (List.mem_of_getElem? hj);refine el11 (Value.isStrOf_shape e2) fun t zr1 => ?_;subst zr1
  cases h3 <;> try (cases hd'; done)
  rename_i z u;exact in44 (as[j]) t z u (List.getElem?_eq_getElem hjl) rfl h2 e3
 have hBn : h'.get? h'.objs.size = none := fresh_size h'
 have asne : ∀ a ∈ as, a ≠ h'.objs.size := fun a ha e => by
  have := hG.there ha;rw [e] at this;exact absurd this (Nat.lt_irrefl _)
 have hp1 : (h'.push { cls := .type "list", data := .seq (as.map Value.ref).toArray }).get? h'.objs.size = some (seqObj "list" (as.map Value.ref).toArray 0) := Heap.get?_push_size _ rfl;have hk1 : ∀ b o, h'.get? b = some o → (h'.push { cls := .type "list", data := .seq (as.map Value.ref).toArray }).get? b = some o := fun b o e => Heap.get?_push_of_some _ e
 refine wpAny_bind (wpAny_holding (wpAny_call_entry slot_list_sort ⟨_, hp1, rfl⟩ entry_list_sort (list_sort_any (s := { s with heap := h'.push { cls := .type "list", data := .seq (as.map Value.ref).toArray }, toks := tk }) (vs := as.map Value.ref) (a := h'.objs.size) (R := fun p => p = kasRun (fun i j => ltS (keyAt es i) (keyAt es j)) (kas_sort es.length)) hp1 (by rw [List.length_map, T.len]; exact h64) (fun h2 h'' hb => ?_) fun out h'' tk' c hc hb ho' => ?_) (args_list_sort _)))
 ·have T2 : Tups h'' as es := T.mono fun a ha o e => hb a o (asne a ha) (hk1 a o e)
  exact ask_tups (s := { s with heap := h'', toks := tk }) T2 hnd (by rw [← T.len]; simpa using h2)
 ·refine in12 _ rfl (wpAny_pure ⟨_, rfl, ?_⟩)
  have hn : s.heap.get? h'.objs.size = none := by
   cases q : s.heap.get? h'.objs.size with
   | none => rfl
   | some o => rw [hk _ _ q] at hBn; cases hBn
  have hkk : ∀ b o, s.heap.get? b = some o → h''.get? b = some o := fun b o e => hb b o (fun e' => by rw [e', hn] at e; cases e) (hk1 b o (hk b o e));have T2 : Tups h'' as es := T.mono fun a ha o e => hb a o (asne a ha) (hk1 a o e);have VLs : VL B ρ h'' (as.map Value.ref) (es.map pairOf) := T2.VL
  have out_V : VL B ρ h'' out (srtE es) := by
   unfold srtE;rcases hc with ⟨h1, rfl⟩ | ⟨h1, p', rfl, rfl⟩
   ·rw [if_pos (by rw [← T.len]; simpa using h1)]; exact VLs
   ·rw [if_neg (by rw [← T.len]; simpa using h1)]; exact VLs.pick _
  have im : Imm s.heap h'' := fun b o e _ => hkk b o e;refine in13 (ρ ++ [h'.objs.size]) (Run.one hn hkk) (W.alloc hn hkk ⟨out.toArray, ⟨c, ho'⟩, ?_⟩) (.ref (by rw [← W.len]; simp));have := out_V.mono (new := [h'.objs.size]) (Imm.refl _);simpa using this
end
end Mine
end

-- ZE
section
namespace Mine
section
variable {prog : Program} {w : World} {B : Heap} {ge : GE} {K : Frag} {ρ ρ' ρ₁ : List Addr} {H : AH} {env : Env} {nm : Nms} {loc : Loc} {s s' s₁ s₂ : Shared} {A : Around} {p : Ev} {n : Nat} {X Y Z : Addr → Prop}
theorem s_bcall {b : Bi} {ds : List D} {H' : AH} {d : D} {vs : List Value} (G : GOk prog w B ge K) (a0 : AOk n A) (W : WR prog w B ρ H s.heap) (e : bcall H b ds = some (d, H')) (x : VL B ρ s.heap vs ds) :
  wpAny (model prog w) A (call b.val vs) (PE prog w B ρ s H' d) F0 s := by
 cases b
 case len => exact s_len (n := n) W e x
 case list => exact s_list G a0 W e x
 case tuple => exact s_tuple W e x
 case sorted =>
  show wpAny (model prog w) A (call (.builtin "sorted") vs) _ _ s
  cases ds with
  | nil => exact nn e
  | cons d1 r =>
   cases r with
   | cons _ _ => exact nn e
   | nil =>
    cases d1 with
    | ref i =>
     revert e;refine obL fun ds hl e => ?_;revert e;refine obS fun xs hx e => ?_;revert e;refine ifs fun h64 e => ?_;cases e;exact s_sorted1 W hl hx h64 x
    | items i =>
     revert e;refine obE fun es hl e => ?_;revert e;refine ifs fun hc e => ?_;simp only [Bool.and_eq_true, decide_eq_true_eq] at hc;cases e;exact s_sorted2 a0.h0 W hl hc.1 hc.2 x
    | _ => exact nn e
 case repr => exact s_repr a0 W e x
 case range => exact s_range W e x
 case min => exact s_min a0 W e x
 case isinstance => exact s_isinstance W e x
 case bool => exact nn e
 case enumerate => exact nn e
theorem AOk.made (a : AOk (n + 1) A) (C : Addr) (vals : List Value) : AOk n (A.under (.builtin "type.__call__" ⟨.ref C :: vals, []⟩)) :=
 ⟨a.hd, a.gd, by have := a.dp; show A.depth + 1 + 2 * n < 990; omega, by have := a.un; show A.units + 1 + 10 * n < 9000; omega⟩
set_option tactic.hygienic true in
theorem s_class {C : Addr} {c : Cl} {args : List D} {vs : List Value} {d : D} {H' : AH} (G : GOk prog w B ge K) (S : Snd prog w B p n) (a0 : AOk (n + 1) A) (hc : ge.cls C = some c)
  (e : (match p.cl (.fn c.init) (.ref (H.length + 1) :: args) (H ++ [.dict [], .inst C H.length]) with | some (.none, H1) => some (D.ref (H.length + 1), H1) | _ => none) = some (d, H')) (W : WR prog w B ρ H s.heap) (x : VL B ρ s.heap vs args) :
  wpAny (model prog w) A (call (.ref C) vs) (PE prog w B ρ s H' d) F0 s := by
 split at e
 rotate_left
 ·cases e
 rename_i H1 h1
 ·cases e;refine el04 (G.cls C c hc) fun k1 k2 k3 _ => ?_;have X : K.In s.heap := G.kin.keeps W.base;refine wpAny_call ?_;obtain ⟨h, g, dr, t, os⟩ := s;refine make_core (init := .ref c.init) (makes_of X k1) (looks_findIn X k2) (fun self => bind_fn X self k3) (.inl rfl) ?_;have ka : ∀ b o, h.get? b = some o → (h.push emptyDict).get? b = some o := fun b o e => Heap.get?_push_of_some _ e;have sz : (h.push emptyDict).objs.size = h.objs.size + 1 := Heap.size_push ..;have ha : (h.push emptyDict).get? h.objs.size = some emptyDict := Heap.get?_push_size _ rfl
  have WA : WR prog w B (ρ ++ [h.objs.size]) (H ++ [.dict []]) (h.push emptyDict) :=
   W.alloc (fresh_size h) ka ⟨[], ⟨_, #[], 0, ha, ⟨rfl, rfl, rfl⟩, rfl, fun _ h => by simp at h, .nil, List.nodup_nil⟩, .nil⟩
  have kb : ∀ b o, (h.push emptyDict).get? b = some o → ((h.push emptyDict).push (instObj C h.objs.size)).get? b = some o := fun b o e => Heap.get?_push_of_some _ e
  have hb : ((h.push emptyDict).push (instObj C h.objs.size)).get? (h.objs.size + 1) = some (instObj C h.objs.size) := by
   rw [← sz]; exact Heap.get?_push_size _ rfl
  have hn2 : (h.push emptyDict).get? (h.objs.size + 1) = none := by rw [← sz]; exact fresh_size _
  have WB : WR prog w B (ρ ++ [h.objs.size] ++ [h.objs.size + 1]) (H ++ [.dict []] ++ [.inst C H.length]) ((h.push emptyDict).push (instObj C h.objs.size)) :=
   WA.alloc hn2 kb ⟨h.objs.size, by rw [← W.len]; simp, hb⟩
  have eH : H ++ [AO.dict [], .inst C H.length] = H ++ [.dict []] ++ [.inst C H.length] := by rw [List.append_assoc]; rfl
  rw [eH] at h1;have kab : ∀ b o, h.get? b = some o → ((h.push emptyDict).push (instObj C h.objs.size)).get? b = some o := fun b o e => kb b o (ka b o e)
  have xs : VL B (ρ ++ [h.objs.size] ++ [h.objs.size + 1]) ((h.push emptyDict).push (instObj C h.objs.size)) (.ref (h.objs.size + 1) :: vs) (.ref (H.length + 1) :: args) := by
   refine .cons (.ref ?_) ?_
   ·rw [← W.len]; simp
   ·rw [List.append_assoc]; exact x.mono fun b o e _ => kab b o e
  refine codeAny_mono (S.fn _ _ _ _ _ h1 _ ⟨(h.push emptyDict).push (instObj C h.objs.size), g, dr, t, os⟩ _ _ (a0.made C vs) WB xs) fun r s' hr => ?_
  rcases r with e | (_ | _ | _ | v) <;> try exact hr.elim
  refine el13 hr fun ρ' R W' V' => ?_;clear hr;refine ⟨by cases V'; rfl, ?_⟩
  have hn1 : h.get? (h.objs.size + 1) = none := by
   cases q : h.get? (h.objs.size + 1) with
   | none => rfl
   | some o => exact absurd (Heap.lt_size q) (Nat.not_lt.mpr (Nat.le_succ _))
  have R0 : Run ρ (fun _ => False) ⟨h, g, dr, t, os⟩ (ρ ++ [h.objs.size] ++ [h.objs.size + 1]) ⟨(h.push emptyDict).push (instObj C h.objs.size), g, dr, t, os⟩ :=
   ((Run.keep (tk := t) kab).add (fresh_size h)).add hn1
  have RR := R0.trans R;refine in13 (ρ') RR W' (.ref ?_);refine el12 (R.ext) fun new zr1 _ => ?_;subst zr1;rw [← W.len];simp [List.getElem?_append]
set_option tactic.hygienic true in
theorem s_call {f : D} {args : List D} {d : D} {H' : AH} {v : Value} {vs : List Value} (G : GOk prog w B ge K) (S : Snd prog w B p n) (a0 : AOk (n + 1) A) (e : callD ge p f args H = some (d, H')) (W : WR prog w B ρ H s.heap) (xv : V B ρ s.heap v f) (x : VL B ρ s.heap vs args) :
  wpAny (model prog w) A (call v vs) (PE prog w B ρ s H' d) F0 s := by
 unfold callD at e
 split at e
 ·rename_i a;refine V.elim xv fun zq => ?_;clear xv;subst zq;revert e;refine obF fun f hf e => ?_
  ·exact wpAny_call (s_func G S a0 hf e W x)
 ·rename_i C;refine V.elim xv fun zq => ?_;clear xv;subst zq;revert e;refine obC fun c hc e => ?_
  ·exact s_class G S a0 hc e W x
 ·rename_i b;refine V.elim xv fun zq => ?_;clear xv;subst zq;exact s_bcall G a0 W e x
 ·exact nn e
theorem snd_zero : Snd prog w B (ev ge 0) 0 :=
 ⟨fun O O O O O O h => (nomatch h), fun O O O O O O h => (nomatch h), fun O O O O O O O h => (nomatch h), fun O O O O O h => (nomatch h), fun O O O O O h => (nomatch h)⟩
set_option tactic.hygienic true in
theorem snd_up (G : GOk prog w B ge K) (S : Snd prog w B p n) : Snd prog w B (up ge p) (n + 1) where
 ex := fun nm loc e H d H' h A s ρ env a0 W F => s_ex G S (a0.mono (Nat.le_succ n)) h W F
 tr := fun nm loc e H t H' h A s ρ env a0 W F => s_tr G S (a0.mono (Nat.le_succ n)) h W F
 st := fun nm st loc H fl loc' H' h A s ρ env a0 W F => s_st G S (a0.mono (Nat.le_succ n)) h W F
 cl := fun f args H d H' h A s ρ v vs a0 W xv x => s_call G S a0 h W xv x
 fn := fun a args H d H' h A s ρ vs a0 W x => by
  have h' : callD ge p (.fn a) args H = some (d, H') := h;unfold callD at h';dsimp only at h'
  split at h'
  ·rename_i f hf;exact s_func G S a0 hf h' W x
  ·cases h'
theorem sound (G : GOk prog w B ge K) : ∀ n, Snd prog w B (ev ge n) n
 | 0 => snd_zero
 | n + 1 => snd_up G (sound G n)
end
end Mine
end

-- B
section
open PySem
namespace Mine
noncomputable def pw : Program := PySem.Challenge.pw_nt0023_01
noncomputable def stmtAt (i : Nat) : Stmt := (pw.main.body[i]?).getD (.Pass default)
noncomputable def fnOf (dfl : List D) : Stmt → Fn
 | .FunctionDef _ a b _ _ _ sc _ _ _ => ⟨a.args.map (·.arg), dfl, sc.names, b⟩
 | _ => ⟨[], [], [], []⟩
noncomputable def methAt (i j : Nat) : Stmt := match stmtAt i with
 | .ClassDef _ _ _ b _ _ _ _ _ _ _ => (b[j]?).getD (.Pass default)
 | _ => .Pass default
noncomputable def fnTab : List (Nat × Nat) := [(29, 5), (36, 6), (43, 7), (48, 8), (55, 9), (97, 11), (112, 13), (117, 14), (124, 15), (131, 16), (138, 19), (145, 21), (201, 24),
 (265, 28), (272, 29), (279, 30), (284, 31), (289, 32), (294, 33), (299, 34), (306, 35), (313, 36), (320, 37), (325, 38), (332, 39), (337, 40)]
noncomputable def methTab : List (Nat × Nat × Nat) := [(69, 10, 0), (76, 10, 1), (83, 10, 2), (159, 22, 0), (166, 22, 1), (173, 22, 2), (215, 25, 0), (222, 25, 1), (229, 25, 2), (236, 25, 3)]
noncomputable def fnAt (a : Addr) : Option Fn :=
 if a = 105 then some (fnOf [.bool false, .int 32] (stmtAt 12)) else
 match fnTab.lookup a with
 | some i => some (fnOf [] (stmtAt i))
 | none => match methTab.lookup a with
  | some (i, j) => some (fnOf [] (methAt i j))
  | none => none
noncomputable def clAt (a : Addr) : Option Cl :=
 if a = 86 then some ⟨69, [("put", 76), ("closing", 83)], ["data", "is_augmented", "most", "starts", "sets", "brackets"]⟩
 else if a = 190 then some ⟨159, [("get", 166), ("put", 173)], ["default", "starts", "values"]⟩
 else if a = 239 then some ⟨215, [("put", 222), ("get", 229), ("map_of", 236)], ["defaults", "maps", "properties", "words"]⟩
 else none
noncomputable def constD : Const → D
 | .int i => .int i
 | .str x => .str x
 | .bool b => .bool b
 | _ => .none
noncomputable def litD : Nat → Expr → D
 | _, .Constant c _ _ => constD c
 | n + 1, .Tuple es _ _ => .tup (es.map (litD n))
 | n + 1, .List es _ => .fl (es.map (litD n))
 | _, _ => .none
noncomputable def valAt (i : Nat) : D := match stmtAt i with
 | .Assign _ v _ => litD 5 v
 | _ => .none
noncomputable def globs : List (Str × Mine.D) := [(("SCRIPT_COMMON" : Str), valAt 2), (("SCRIPT_INHERITED" : Str), valAt 3), (("SCRIPT_UNKNOWN" : Str), valAt 4), (("MAX_CODE" : Str), valAt 18), (("_law_rows" : Str), valAt 27),
 (("script_set" : Str), D.fn 29), (("scripts_met" : Str), D.fn 48), (("own_scripts" : Str), D.fn 55), (("script_of_run" : Str), D.fn 97), (("runs" : Str), D.fn 105), (("script_items" : Str), D.fn 112), (("script_spans" : Str), D.fn 117),
 (("script_counts" : Str), D.fn 124), (("main_script" : Str), D.fn 131), (("place_by_half" : Str), D.fn 138), (("range_are_like" : Str), D.fn 145), (("data_defaults" : Str), D.fn 201),
 (("ScriptRuns" : Str), D.cls 86), (("RangeMap" : Str), D.cls 190), (("Data" : Str), D.cls 239),
 (("_law_deck" : Str), D.fn 265), (("_law_draw" : Str), D.fn 272), (("_law_data" : Str), D.fn 279), (("_law_own" : Str), D.fn 284), (("_law_lot" : Str), D.fn 289), (("_law_common" : Str), D.fn 294), (("_law_word" : Str), D.fn 299),
 (("_law_tiles" : Str), D.fn 306), (("_law_pieces" : Str), D.fn 313), (("_law_drawn_rows" : Str), D.fn 320), (("_law_counts_right" : Str), D.fn 325), (("_law_lots_right" : Str), D.fn 332),
 (("len" : Str), D.bi .len), (("list" : Str), D.bi .list), (("tuple" : Str), D.bi .tuple), (("sorted" : Str), D.bi .sorted), (("repr" : Str), D.bi .repr), (("range" : Str), D.bi .range), (("min" : Str), D.bi .min), (("isinstance" : Str), D.bi .isinstance), (("bool" : Str), D.bi .bool), (("enumerate" : Str), D.bi .enumerate)]
noncomputable def ge : GE := ⟨fun x => globs.lookup x, fnAt, clAt⟩
end Mine
end

-- HK
section
namespace Mine
noncomputable def mdV : Nat → Value
 | 0 => .str "unicore.scriptruns" 194
 | 1 => .str "unicore.base" 386
 | 2 => .str "unicore.ranges" 401
 | 3 => .str "unicore.data" 480
 | _ => .str "law_nt0023_01" 549
noncomputable def fnD (s : Stmt) (q : Str) (m : Nat) (c : Addr) (dv : Value) : FuncData := match s with
 | .FunctionDef nm a b _ _ _ sc _ _ _ => { name := nm, qualname := q, params := a, body := .stmts b, scope := sc, globals := 3, closure := [], defaults := dv, kwdefaults := .none, pyModule := mdV m, code := .ref c }
 | _ => default
noncomputable def fnO (s : Stmt) (q : Str) (m : Nat) (c : Addr) (dv : Value) : Obj := { cls := .type "function", data := .func (fnD s q m c dv) }
noncomputable def nameS : Stmt → Str
 | .FunctionDef nm .. => nm
 | _ => ""
noncomputable def de (P : Params) (k : Str) (t : Tok) (v : Value) : DictEntry := { hash := PyData.keyHash P k, key := .str k t, val := v }
noncomputable def fnTab3 : List (Nat × Nat × Nat) := [(29, 5, 0), (36, 6, 0), (43, 7, 0), (48, 8, 0), (55, 9, 0), (97, 11, 0), (112, 13, 0), (117, 14, 0), (124, 15, 0), (131, 16, 0), (138, 19, 1), (145, 21, 2), (201, 24, 3), (265, 28, 4), (272, 29, 4), (279, 30, 4), (284, 31, 4), (289, 32, 4), (294, 33, 4), (299, 34, 4), (306, 35, 4), (313, 36, 4), (320, 37, 4), (325, 38, 4), (332, 39, 4), (337, 40, 4)]
noncomputable def methTab3 : List (Nat × Nat × Nat × Str × Nat) := [(69, 10, 0, "ScriptRuns.__init__", 0), (76, 10, 1, "ScriptRuns.put", 0), (83, 10, 2, "ScriptRuns.closing", 0), (159, 22, 0, "RangeMap.__init__", 2), (166, 22, 1, "RangeMap.get", 2), (173, 22, 2, "RangeMap.put", 2), (215, 25, 0, "Data.__init__", 3), (222, 25, 1, "Data.put", 3), (229, 25, 2, "Data.get", 3), (236, 25, 3, "Data.map_of", 3)]
noncomputable def KF (P : Params) : Frag := [(3, { cls := .type "dict", data := .dict #[de P "__name__" 165 (.str "law_nt0023_01" 549), de P "__doc__" 166 (.none), de P "__package__" 167 (.none), de P "__loader__" 168 (.builtin "__main__.__loader__#opaque"), de P "__spec__" 169 (.none), de P "__annotations__" 170 (.ref 6), de P "__builtins__" 171 (.ref 4), de P "__file__" 173 (.str "/claim/cut.py" 172), de P "__cached__" 174 (.none), de P "_wall" 193 (.ref 21), de P "SCRIPT_COMMON" 197 (.str "Zyyy" 196), de P "SCRIPT_INHERITED" 200 (.ref 22), de P "SCRIPT_UNKNOWN" 202 (.str "Zzzz" 201), de P "script_set" 214 (.ref 29), de P "script_wider" 225 (.ref 36), de P "augmented_scripts" 233 (.ref 43), de P "scripts_met" 239 (.ref 48), de P "own_scripts" 250 (.ref 55), de P "ScriptRuns" 310 (.ref 86), de P "script_of_run" 322 (.ref 97), de P "runs" 340 (.ref 105), de P "script_items" 354 (.ref 112), de P "script_spans" 360 (.ref 117), de P "script_counts" 372 (.ref 124), de P "main_script" 385 (.ref 131), de P "MAX_CODE" 389 (.int 1114111 388), de P "place_by_half" 400 (.ref 138), de P "range_are_like" 410 (.ref 145), de P "RangeMap" 479 (.ref 190), de P "data_defaults" 489 (.ref 201), de P "Data" 548 (.ref 239), de P "_law_rows" 583 (.ref 260), de P "_law_deck" 589 (.ref 265), de P "_law_draw" 599 (.ref 272), de P "_law_data" 610 (.ref 279), de P "_law_own" 616 (.ref 284), de P "_law_lot" 622 (.ref 289), de P "_law_common" 628 (.ref 294), de P "_law_word" 634 (.ref 299), de P "_law_tiles" 647 (.ref 306), de P "_law_pieces" 660 (.ref 313), de P "_law_drawn_rows" 671 (.ref 320), de P "_law_counts_right" 677 (.ref 325), de P "_law_lots_right" 691 (.ref 332), de P "law" 697 (.ref 337)] 45 }), (22, { cls := .type "tuple", data := .seq #[.str "Zinh" 198, .str "Qaai" 199] }), (85, { cls := .type "dict", data := .dict #[de P "__module__" 258 (.str "unicore.scriptruns" 194), de P "__firstlineno__" 262 (.int 43 261), de P "__init__" 272 (.ref 69), de P "put" 284 (.ref 76), de P "closing" 296 (.ref 83), de P "__static_attributes__" 303 (.ref 84), de P "__dict__" 305 (.ref 87), de P "__weakref__" 307 (.ref 88), de P "__doc__" 308 (.none)] 4 }), (86, { cls := .type "type", data := .cls { name := "ScriptRuns", bases := [.type "object"], mro := [.ref 86, .type "object"], ns := 85, qualname := "ScriptRuns" }, slots := #[none, none, some (.str "ScriptRuns" 251), some (.str "ScriptRuns" 259), some (.builtin "object.__new__"), some (.bool true)] }), (98, { cls := .type "tuple", data := .seq #[.bool false, .int 32 323] }), (189, { cls := .type "dict", data := .dict #[de P "__module__" 418 (.str "unicore.ranges" 401), de P "__firstlineno__" 422 (.int 137 421), de P "__init__" 430 (.ref 159), de P "get" 438 (.ref 166), de P "put" 453 (.ref 173), de P "ranges" 460 (.ref 180), de P "set_of" 468 (.ref 187), de P "__static_attributes__" 472 (.ref 188), de P "__dict__" 474 (.ref 191), de P "__weakref__" 476 (.ref 192), de P "__doc__" 477 (.none)] 4 }), (190, { cls := .type "type", data := .cls { name := "RangeMap", bases := [.type "object"], mro := [.ref 190, .type "object"], ns := 189, qualname := "RangeMap" }, slots := #[none, none, some (.str "RangeMap" 411), some (.str "RangeMap" 419), some (.builtin "object.__new__"), some (.bool true)] }), (238, { cls := .type "dict", data := .dict #[de P "__module__" 497 (.str "unicore.data" 480), de P "__firstlineno__" 501 (.int 180 500), de P "__init__" 508 (.ref 215), de P "put" 519 (.ref 222), de P "get" 528 (.ref 229), de P "map_of" 536 (.ref 236), de P "__static_attributes__" 541 (.ref 237), de P "__dict__" 543 (.ref 240), de P "__weakref__" 545 (.ref 241), de P "__doc__" 546 (.none)] 4 }), (239, { cls := .type "type", data := .cls { name := "Data", bases := [.type "object"], mro := [.ref 239, .type "object"], ns := 238, qualname := "Data" }, slots := #[none, none, some (.str "Data" 490), some (.str "Data" 498), some (.builtin "object.__new__"), some (.bool true)] }), (244, { cls := .type "tuple", data := .seq #[.int 1072 551, .str "Cyrl" 552, .none] }), (245, { cls := .type "tuple", data := .seq #[.int 97 553, .str "Latn" 554, .none] }), (246, { cls := .type "tuple", data := .seq #[.int 945 555, .str "Grek" 556, .none] }), (247, { cls := .type "tuple", data := .seq #[.int 32 557, .str "Zyyy" 558, .none] }), (248, { cls := .type "tuple", data := .seq #[.int 768 559, .str "Zinh" 560, .none] }), (249, { cls := .type "tuple", data := .seq #[.str "Hira" 563, .str "Kana" 564] }), (250, { cls := .type "tuple", data := .seq #[.int 12540 561, .str "Zyyy" 562, .ref 249] }), (251, { cls := .type "tuple", data := .seq #[.int 12354 565, .str "Hira" 566, .none] }), (252, { cls := .type "tuple", data := .seq #[.int 12450 567, .str "Kana" 568, .none] }), (253, { cls := .type "tuple", data := .seq #[.str "Cyrl" 571, .str "Deva" 572, .str "Latn" 573] }), (254, { cls := .type "tuple", data := .seq #[.int 2385 569, .str "Zinh" 570, .ref 253] }), (255, { cls := .type "tuple", data := .seq #[.str "Deva" 576, .str "Gujr" 577, .str "Latn" 578] }), (256, { cls := .type "tuple", data := .seq #[.int 2406 574, .str "Deva" 575, .ref 255] }), (257, { cls := .type "tuple", data := .seq #[.str "Grek" 581] }), (258, { cls := .type "tuple", data := .seq #[.int 903 579, .str "Zyyy" 580, .ref 257] }), (259, { cls := .type "tuple", data := .seq #[.int 888 582, .none, .none] }), (260, { cls := .type "list", data := .seq #[.ref 244, .ref 245, .ref 246, .ref 247, .ref 248, .ref 250, .ref 251, .ref 252, .ref 254, .ref 256, .ref 258, .ref 259] })] ++
 ((105, fnO (stmtAt 12) "runs" 0 104 (.ref 98)) : Addr × Obj) :: fnTab3.map (fun x => (x.1, fnO (stmtAt x.2.1) (nameS (stmtAt x.2.1)) x.2.2 (x.1 - 1) .none)) ++ methTab3.map (fun x => (x.1, fnO (methAt x.2.1 x.2.2.1) x.2.2.2.1 x.2.2.2.2 (x.1 - 1) .none))
noncomputable def asK : List Addr := [3, 22, 85, 86, 98, 189, 190, 238, 239, 244, 245, 246, 247, 248, 249, 250, 251, 252, 253, 254, 255, 256, 257, 258, 259, 260] ++ 105 :: fnTab3.map (·.1) ++ methTab3.map (·.1)
noncomputable def codesL : List (Addr × Str) := ((104, ("runs" : Str)) : Addr × Str) :: fnTab3.map (fun x => (x.1 - 1, nameS (stmtAt x.2.1))) ++ methTab3.map (fun x => (x.1 - 1, x.2.2.2.1))
noncomputable def codeB (h : Heap) (p : Addr × Str) : Bool := match h.get? p.1 with
 | some o => (match o.data with
  | .fields vs => (match (vs[1]? : Option Value) with | some (.str x _) => decide (x = p.2) | _ => false)
  | _ => false)
 | none => false
set_option tactic.hygienic true in
theorem codeB_of {h : Heap} {p : Addr × Str} (e : codeB h p = true) : h.CodeRec (.ref p.1) p.2 := by
 unfold codeB at e
 split at e
 ·rename_i o ho
  split at e
  ·rename_i vs hv
   split at e
   ·rename_i x t hx;exact in44 _ o vs t rfl ho hv (by rw [hx, of_decide_eq_true e])
   ·exact ff e
  ·exact ff e
 ·exact ff e
theorem asK_of (P : Params) : asK = (KF P).map (·.1) := by kernel_rfl
noncomputable def hookK : Hook := ⟨List (Option Obj) × Bool, fun s => (asK.map s.heap.get?, codesL.all (codeB s.heap)), fun w => ((KF w.params).map fun p => some p.2, true),
 fun w h => (KF w.params).In h ∧ ∀ p ∈ codesL, h.CodeRec (.ref p.1) p.2,
 fun w s e => ⟨Frag.in_of (asK_of w.params) (congrArg Prod.fst e), fun p hp => codeB_of (List.all_eq_true.mp (congrArg Prod.snd e) p hp)⟩,
 fun w h h' x k => ⟨Frag.In.keeps x.1 k, fun p hp => by
  refine el44 (x.2 p hp) fun c o vs t e1 e2 e3 e4 => ?_
  exact ⟨c, o, vs, t, e1, k _ _ e2, e3, e4⟩⟩⟩
noncomputable def viewQ : Program := { pw with main := { pw.main with body := [stmtAt 40] } }
noncomputable def lseL : List Str := (["_wall", "SCRIPT_COMMON", "SCRIPT_INHERITED", "SCRIPT_UNKNOWN", "script_set", "script_wider", "augmented_scripts", "scripts_met", "own_scripts", "ScriptRuns", "script_of_run", "runs", "script_items", "script_spans", "script_counts", "main_script", "MAX_CODE", "place_by_half", "range_are_like", "RangeMap", "data_defaults", "Data", "_law_rows", "_law_deck", "_law_draw", "_law_data", "_law_own", "_law_lot", "_law_common", "_law_word", "_law_tiles", "_law_pieces", "_law_drawn_rows", "_law_counts_right", "_law_lots_right"] : List String).map Str.ofString
noncomputable abbrev theLaw : OpenLaw := PySem.Challenge.rw_nt0023_01
noncomputable def seenX (s : Shared) : Bool := xlAt viewQ [] s && recOk (RowW.records theLaw.row.toRowW) s
theorem left_ok : LeftO theLaw.row.prog viewQ lseL seenX hookK.obs hookK.val 4148 := fun w => by kernel_rfl
end Mine
end

-- ZF
section
namespace Mine
section
variable {prog : Program} {w : World} {B : Heap} {K : Frag}
noncomputable def globK (K : Frag) (x : Str) : Option (Option Value) := match K.lookup mainGlobals with
 | some o => match o.data with
  | .dict es _ => some (nsFind es x)
  | _ => none
 | none => none
set_option tactic.hygienic true in
theorem globK_of {mg : Str → Option Value} {x : Str} {v : Option Value} (X : K.In B) (G : B.Ns mainGlobals mg) (h : globK K x = some v) : mg x = v := by
 unfold globK at h
 split at h
 ·rename_i o ho;refine el34 G fun o' es ep e1 e2 _ e3 => ?_;clear G;rw [X _ _ ho] at e1;cases e1;rw [e2] at h;cases h;exact (e3 x).symm
 ·exact nn h
noncomputable def seqK (K : Frag) (T : String) (a : Addr) : Option (Array Value × Nat) := match K.lookup a with
 | some ⟨.type t, none, .seq vs n, sl⟩ => if t = T ∧ sl.size = 0 then some (vs, n) else none
 | _ => none
set_option tactic.hygienic true in
theorem seqK_of {T : String} {a : Addr} {vs : Array Value} {n : Nat} (X : K.In B) (h : seqK K T a = some (vs, n)) : B.get? a = some { cls := .type T, data := .seq vs n } := by
 unfold seqK at h
 split at h
 ·rename_i t us m sl ho
  split at h
  ·rename_i hc;cases h;refine el02 hc fun zr1 h2 => ?_;clear hc;subst zr1;have : sl = #[] := Array.eq_empty_of_size_eq_zero h2;subst this;exact X _ _ ho
  ·exact nn h
 ·exact nn h
noncomputable def all2 (f : Value → D → Bool) : List Value → List D → Bool
 | [], [] => true
 | v :: vs, d :: ds => f v d && all2 f vs ds
 | _, _ => false
noncomputable def ok0 (v : Value) (d : D) : Bool := match d with
 | .none => decide (v = .none)
 | .bool b => decide (v = .bool b)
 | .int j => match v with
  | .int i _ => decide (i = j)
  | _ => false
 | .str y => match v with
  | .str x _ => decide (x = y) && PyData.strOk x
  | _ => false
 | .fn b => decide (v = .ref b)
 | .cls b => decide (v = .ref b)
 | _ => false
noncomputable def okSeq (K : Frag) (T : String) (f : Value → D → Bool) (v : Value) (ds : List D) : Bool := match v with
 | .ref a => match seqK K T a with
  | some (vs, _) => all2 f vs.toList ds
  | none => false
 | _ => false
noncomputable def okV (K : Frag) : Nat → Value → D → Bool
 | 0, v, d => ok0 v d
 | n + 1, v, d => match d with
  | .tup ds => okSeq K "tuple" (okV K n) v ds
  | .fl ds => okSeq K "list" (okV K n) v ds
  | _ => ok0 v d
theorem all2_VL {f : Value → D → Bool} (hf : ∀ v d, f v d = true → V B [] B v d) : ∀ {vs : List Value} {ds : List D}, all2 f vs ds = true → VL B [] B vs ds
 | [], [], _ => .nil
 | [], _ :: _, h => by cases h
 | _ :: _, [], h => by cases h
 | v :: vs, d :: ds, h => by
  unfold all2 at h;rw [Bool.and_eq_true] at h;exact .cons (hf _ _ h.1) (all2_VL hf h.2)
theorem ok0_V {v : Value} {d : D} (h : ok0 v d = true) : V B [] B v d := by
 cases d with
 | none => rw [of_decide_eq_true h]; exact .none
 | bool b => rw [of_decide_eq_true h]; exact .bool _
 | int j => cases v with
  | int i t => rw [of_decide_eq_true h]; exact .int _ _
  | _ => exact ff h
 | str y => cases v with
  | str x t =>
   have h := Bool.and_eq_true_iff.1 h;rw [← of_decide_eq_true h.1]; exact .str _ _ h.2
  | _ => exact ff h
 | fn b => rw [of_decide_eq_true h]; exact .fn _
 | cls b => rw [of_decide_eq_true h]; exact .cls _
 | _ => exact ff h
theorem okSeq_V {T : String} {f : Value → D → Bool} (X : K.In B) (ih : ∀ v d, f v d = true → V B [] B v d) {v : Value} {ds : List D} (h : okSeq K T f v ds = true) :
  ∃ a vs n, v = .ref a ∧ B.get? a = some { cls := .type T, data := .seq vs n } ∧ VL B [] B vs.toList ds := by
 cases v with
 | ref a =>
  cases hs : seqK K T a with
  | none => unfold okSeq at h; dsimp only at h; rw [hs] at h; exact ff h
  | some q => unfold okSeq at h; dsimp only at h; rw [hs] at h; exact ⟨a, q.1, q.2, rfl, seqK_of X hs, all2_VL ih h⟩
 | _ => exact ff h
theorem okV_V (X : K.In B) : ∀ (n : Nat) (v : Value) (d : D), okV K n v d = true → V B [] B v d := by
 intro n
 induction n with
 | zero => exact fun v d h => ok0_V h
 | succ n ih =>
  intro v d h
  cases d with
  | tup ds =>
   refine el33 (okSeq_V X ih h) fun a vs m zr1 ho hv => ?_;subst zr1;exact .tup ho hv
  | fl ds =>
   refine el33 (okSeq_V X ih h) fun a vs m zr1 ho hv => ?_;subst zr1;exact .fl ho hv
  | _ => exact ok0_V h
noncomputable def nameK (K : Frag) (x : Str) (d : D) : Bool := match d with
 | .bi _ => (match globK K x with | some none => true | _ => false) && x != "__name__"
 | d => match globK K x with
  | some (some v) => okV K 6 v d
  | _ => false
set_option tactic.hygienic true in
theorem nameK_of {mg mb : Str → Option Value} {x : Str} {d : D} (X : K.In B) (G : B.Ns mainGlobals mg) (hb : ∀ x : Str, x ≠ "__name__" → mb x = bootBuiltins x) (h : nameK K x d = true) (hbi : ∀ b, d = .bi b → bootBuiltins x = some b.val) :
  ∃ v, (mg x = some v ∨ (mg x = none ∧ mb x = some v)) ∧ V B [] B v d := by
 unfold nameK at h
 split at h
 ·rename_i b;rw [Bool.and_eq_true] at h;refine in12 b.val (.inr ⟨?_, ?_⟩) (.bi b)
  ·have := h.1
   split at this
   ·rename_i hg; exact globK_of X G hg
   ·exact ff this
  ·rw [hb x (by simpa using h.2)]; exact hbi b rfl
 ·split at h
  ·rename_i v hg;exact in12 v (.inl (globK_of X G hg)) (okV_V X 6 _ _ h)
  ·exact ff h
noncomputable def fnData (K : Frag) (a : Addr) : FuncData := match K.lookup a with
 | some o => match o.data with
  | .func fd => fd
  | _ => default
 | none => default
noncomputable def codeK (fd : FuncData) : Bool := match fd.code with
 | .ref c => codesL.any fun p => decide (p.1 = c) && decide (p.2 = fd.qualname)
 | _ => false
set_option tactic.hygienic true in
theorem codeK_of {fd : FuncData} (X : ∀ p ∈ codesL, B.CodeRec (.ref p.1) p.2) (h : codeK fd = true) : B.CodeRec fd.code fd.qualname := by
 unfold codeK at h
 split at h
 ·rename_i c hc;refine el12 (List.any_eq_true.mp h) fun p hp e => ?_;rw [Bool.and_eq_true, decide_eq_true_eq, decide_eq_true_eq] at e;rw [hc, ← e.1, ← e.2];exact X p hp
 ·exact ff h
structure FnK (K : Frag) (a : Addr) (f : Fn) : Prop where
 data : (K.lookup a).map (·.data) = some (.func (fnData K a))
 body : (fnData K a).body = .stmts f.body
 kind : (fnData K a).scope.kind = .function
 co : (fnData K a).scope.isCoroutine = false
 gen : (fnData K a).scope.isGenerator = false
 names : (fnData K a).scope.names = f.names
 gl : (fnData K a).globals = mainGlobals
 bu : (fnData K a).builtins = builtinsNs
 clo : (fnData K a).closure = []
 code : codeK (fnData K a) = true
 chk : (decide ((f.names.map (·.1)).Nodup) && f.params.all (fun x => isOwn (f.names.lookup x)) && decide f.params.Nodup && f.names.all (fun x => match x.2 with | .free => false | _ => true)) = true
noncomputable def okS (s : Stmt) : Bool := match s with
 | .FunctionDef _ a b _ _ _ sc _ _ _ => (match sc.kind with | .function => true | _ => false) && !sc.isCoroutine && !sc.isGenerator &&
  (decide ((sc.names.map (·.1)).Nodup) && (a.args.map (·.arg)).all (fun x => isOwn (sc.names.lookup x)) && decide (a.args.map (·.arg)).Nodup && sc.names.all (fun x => match x.2 with | .free => false | _ => true))
 | _ => false
theorem FnK.of {a : Addr} {s : Stmt} {q : Str} {m : Nat} {c : Addr} {dv : Value} {dfl : List D} (h : K.lookup a = some (fnO s q m c dv)) (hs : okS s = true) (hc : (codesL.any fun p => decide (p.1 = c) && decide (p.2 = q)) = true) : FnK K a (fnOf dfl s) := by
 have e : fnData K a = fnD s q m c dv := by unfold fnData; rw [h]; rfl
 cases s with
 | FunctionDef nm A b _ _ _ sc _ _ _ =>
  refine el02 (Bool.and_eq_true_iff.mp hs) fun h123 h4 => ?_;refine el02 (Bool.and_eq_true_iff.mp h123) fun h12 h3 => ?_;refine el02 (Bool.and_eq_true_iff.mp h12) fun h1 h2 => ?_;rw [Bool.not_eq_true'] at h2 h3
  have h1' : sc.kind = .function := by
   revert h1
   cases sc.kind <;> first | exact fun O => rfl | exact fun h => nomatch h
  exact ⟨by rw [e, h]; rfl, by rw [e]; rfl, by rw [e]; exact h1', by rw [e]; exact h2, by rw [e]; exact h3, by rw [e]; rfl, by rw [e]; rfl, by rw [e]; rfl, by rw [e]; rfl, by rw [e]; exact hc, h4⟩
 | _ => exact ff hs
theorem FnK.ok {a : Addr} {f : Fn} (X : K.In B) (X2 : ∀ p ∈ codesL, B.CodeRec (.ref p.1) p.2) (h : FnK K a f)
  (bind : ∀ vals : List Value, vals.length ≤ f.params.length → f.params.length ≤ vals.length + f.dfl.length → ∃ dv, VL B [] B dv (f.dfl.drop (f.dfl.length - (f.params.length - vals.length))) ∧ ∀ S, peek K S (bindArgs (fnData K a) ⟨vals, []⟩) = some (f.params.zip (vals ++ dv))) : FnOk prog w B a f := by
 have hc := h.chk;simp only [Bool.and_eq_true, decide_eq_true_eq, List.all_eq_true] at hc;refine el02 hc fun zq1 c4 => ?_;clear hc;refine el02 zq1 fun zq2 c3 => ?_;clear zq1;refine el02 zq2 fun c1 c2 => ?_;clear zq2;refine ⟨?_, c1, c2, c3, fun x hx => by have := c4 _ hx; cases this⟩;have hd := h.data
 cases e : K.lookup a with
 | none => rw [e] at hd; exact nn hd
 | some o =>
  rw [e] at hd
  have hd' : o.data = .func (fnData K a) := by simpa using hd
  refine in2xc o (fnData K a) (X _ _ e) hd' h.body h.kind h.co h.gen h.names h.gl h.bu h.clo (codeK_of X2 h.code) (fun A E s vals hb l1 l2 => ?_);refine el12 (bind vals l1 l2) fun dv q1 q2 => ?_;exact in12 dv q1 (fun Q hq => kp_binds (X.keeps hb) q2 _ A E Q hq)
theorem FnK.plain {a : Addr} {f : Fn} {m : Nat} (X : K.In B) (X2 : ∀ p ∈ codesL, B.CodeRec (.ref p.1) p.2) (h : FnK K a f) (hd : f.dfl = []) (hm : f.params.length = m) (bind : ∀ vals : List Value, vals.length = m → ∀ S, peek K S (bindArgs (fnData K a) ⟨vals, []⟩) = some (f.params.zip vals)) : FnOk prog w B a f :=
 h.ok X X2 fun vals l1 l2 => by
  rw [hd] at l2 ⊢
  have hl : vals.length = m := by simp at l2; exact Nat.le_antisymm (ln2 1409601 1537681 1411201 [_,_,_] [] hm l1) (ln2 1409601 1600081 1409681 [_,_,_] [] hm l2)
  exact in12 ([]) (by simpa using VL.nil) (fun S => by rw [List.append_nil]; exact bind vals hl S)
set_option tactic.hygienic true in
theorem fns_of (h1 : ∀ p ∈ fnTab, FnOk prog w B p.1 (fnOf [] (stmtAt p.2))) (h2 : ∀ p ∈ methTab, FnOk prog w B p.1 (fnOf [] (methAt p.2.1 p.2.2))) (h3 : FnOk prog w B 105 (fnOf [.bool false, .int 32] (stmtAt 12))) :
  ∀ a f, ge.fn a = some f → FnOk prog w B a f := by
 intro a f hf;have hf' : fnAt a = some f := hf;unfold fnAt at hf'
 split at hf'
 ·rename_i e; cases hf'; rw [e]; exact h3
 ·split at hf'
  ·rename_i i hi;cases hf';refine el22 (List.lookup_eq_some_iff.mp hi) fun l1 l2 e _ => ?_;exact h1 (a, i) (by rw [e]; simp)
  ·split at hf'
   ·rename_i i j hij;cases hf';refine el22 (List.lookup_eq_some_iff.mp hij) fun l1 l2 e _ => ?_;exact h2 (a, i, j) (by rw [e]; simp)
   ·cases hf'
theorem names_of {mg mb : Str → Option Value} (X : K.In B) (G : B.Ns mainGlobals mg) (Gb : B.Ns builtinsNs mb) (hb : ∀ x : Str, x ≠ "__name__" → mb x = bootBuiltins x) (h : (globs.all fun p => nameK K p.1 p.2) = true) (hbi : ∀ p ∈ globs, ∀ b, p.2 = .bi b → bootBuiltins p.1 = some b.val) :
  ∃ mg mb, B.Ns mainGlobals mg ∧ B.Ns builtinsNs mb ∧ ∀ x d, ge.glob x = some d → ∃ v, (mg x = some v ∨ (mg x = none ∧ mb x = some v)) ∧ V B [] B v d := by
 refine in23 mg mb G Gb (fun x d hx => ?_);have hx' : globs.lookup x = some d := hx;refine el22 (List.lookup_eq_some_iff.mp hx') fun l1 l2 e O => ?_
 have hm : (x, d) ∈ globs := by rw [e]; simp
 exact nameK_of X G hb (List.all_eq_true.mp h _ hm) fun b hb' => hbi _ hm b hb'
end
end Mine
end

-- ZG
section
namespace Mine
noncomputable abbrev KT (w : World) : Frag := KF w.params
section
variable {prog : Program} {w : World} {B : Heap}
theorem len0 {α : Type} {l : List α} (h : l.length = 0) : l = [] := List.length_eq_zero_iff.mp h
theorem lenS {α : Type} {l : List α} {n : Nat} (h : l.length = n + 1) : ∃ a r, l = a :: r ∧ r.length = n := by
 cases l with
 | nil => cases h
 | cons a r => exact ⟨a, r, rfl, by simpa using h⟩
theorem fk29 : FnK (KT w) 29 (fnOf [] (stmtAt 5)) := .of (q := nameS (stmtAt 5)) (m := 0) (c := 28) (dv := .none) (by kernel_rfl) (by kernel_rfl) (by kernel_rfl)
theorem fb29 (S : Setting) (v0 v1 : Value) : peek (KT w) S (bindArgs (fnData (KT w) 29) ⟨[v0, v1], []⟩) = some ((fnOf [] (stmtAt 5)).params.zip [v0, v1]) := by kernel_rfl
theorem fo29 (X : (KT w).In B) (X2 : ∀ p ∈ codesL, B.CodeRec (.ref p.1) p.2) : FnOk prog w B 29 (fnOf [] (stmtAt 5)) := by
 refine fk29.plain X X2 (by kernel_rfl) (m := 2) (by kernel_rfl) fun vals h S => ?_;refine el22 (lenS h) fun v0 r0 zr1 h0 => ?_;subst zr1;refine el22 (lenS h0) fun v1 r1 zr1 h1 => ?_;subst zr1;have hz := len0 h1;subst hz;exact fb29 S v0 v1
theorem fk36 : FnK (KT w) 36 (fnOf [] (stmtAt 6)) := .of (q := nameS (stmtAt 6)) (m := 0) (c := 35) (dv := .none) (by kernel_rfl) (by kernel_rfl) (by kernel_rfl)
theorem fb36 (S : Setting) (v0 : Value) : peek (KT w) S (bindArgs (fnData (KT w) 36) ⟨[v0], []⟩) = some ((fnOf [] (stmtAt 6)).params.zip [v0]) := by kernel_rfl
theorem fo36 (X : (KT w).In B) (X2 : ∀ p ∈ codesL, B.CodeRec (.ref p.1) p.2) : FnOk prog w B 36 (fnOf [] (stmtAt 6)) := by
 refine fk36.plain X X2 (by kernel_rfl) (m := 1) (by kernel_rfl) fun vals h S => ?_;refine el22 (lenS h) fun v0 r0 zr1 h0 => ?_;subst zr1;have hz := len0 h0;subst hz;exact fb36 S v0
theorem fk43 : FnK (KT w) 43 (fnOf [] (stmtAt 7)) := .of (q := nameS (stmtAt 7)) (m := 0) (c := 42) (dv := .none) (by kernel_rfl) (by kernel_rfl) (by kernel_rfl)
theorem fb43 (S : Setting) (v0 v1 : Value) : peek (KT w) S (bindArgs (fnData (KT w) 43) ⟨[v0, v1], []⟩) = some ((fnOf [] (stmtAt 7)).params.zip [v0, v1]) := by kernel_rfl
theorem fo43 (X : (KT w).In B) (X2 : ∀ p ∈ codesL, B.CodeRec (.ref p.1) p.2) : FnOk prog w B 43 (fnOf [] (stmtAt 7)) := by
 refine fk43.plain X X2 (by kernel_rfl) (m := 2) (by kernel_rfl) fun vals h S => ?_;refine el22 (lenS h) fun v0 r0 zr1 h0 => ?_;subst zr1;refine el22 (lenS h0) fun v1 r1 zr1 h1 => ?_;subst zr1;have hz := len0 h1;subst hz;exact fb43 S v0 v1
theorem fk48 : FnK (KT w) 48 (fnOf [] (stmtAt 8)) := .of (q := nameS (stmtAt 8)) (m := 0) (c := 47) (dv := .none) (by kernel_rfl) (by kernel_rfl) (by kernel_rfl)
theorem fb48 (S : Setting) (v0 v1 : Value) : peek (KT w) S (bindArgs (fnData (KT w) 48) ⟨[v0, v1], []⟩) = some ((fnOf [] (stmtAt 8)).params.zip [v0, v1]) := by kernel_rfl
theorem fo48 (X : (KT w).In B) (X2 : ∀ p ∈ codesL, B.CodeRec (.ref p.1) p.2) : FnOk prog w B 48 (fnOf [] (stmtAt 8)) := by
 refine fk48.plain X X2 (by kernel_rfl) (m := 2) (by kernel_rfl) fun vals h S => ?_;refine el22 (lenS h) fun v0 r0 zr1 h0 => ?_;subst zr1;refine el22 (lenS h0) fun v1 r1 zr1 h1 => ?_;subst zr1;have hz := len0 h1;subst hz;exact fb48 S v0 v1
theorem fk55 : FnK (KT w) 55 (fnOf [] (stmtAt 9)) := .of (q := nameS (stmtAt 9)) (m := 0) (c := 54) (dv := .none) (by kernel_rfl) (by kernel_rfl) (by kernel_rfl)
theorem fb55 (S : Setting) (v0 v1 : Value) : peek (KT w) S (bindArgs (fnData (KT w) 55) ⟨[v0, v1], []⟩) = some ((fnOf [] (stmtAt 9)).params.zip [v0, v1]) := by kernel_rfl
theorem fo55 (X : (KT w).In B) (X2 : ∀ p ∈ codesL, B.CodeRec (.ref p.1) p.2) : FnOk prog w B 55 (fnOf [] (stmtAt 9)) := by
 refine fk55.plain X X2 (by kernel_rfl) (m := 2) (by kernel_rfl) fun vals h S => ?_;refine el22 (lenS h) fun v0 r0 zr1 h0 => ?_;subst zr1;refine el22 (lenS h0) fun v1 r1 zr1 h1 => ?_;subst zr1;have hz := len0 h1;subst hz;exact fb55 S v0 v1
theorem fk97 : FnK (KT w) 97 (fnOf [] (stmtAt 11)) := .of (q := nameS (stmtAt 11)) (m := 0) (c := 96) (dv := .none) (by kernel_rfl) (by kernel_rfl) (by kernel_rfl)
theorem fb97 (S : Setting) (v0 v1 v2 v3 v4 : Value) : peek (KT w) S (bindArgs (fnData (KT w) 97) ⟨[v0, v1, v2, v3, v4], []⟩) = some ((fnOf [] (stmtAt 11)).params.zip [v0, v1, v2, v3, v4]) := by kernel_rfl
theorem fo97 (X : (KT w).In B) (X2 : ∀ p ∈ codesL, B.CodeRec (.ref p.1) p.2) : FnOk prog w B 97 (fnOf [] (stmtAt 11)) := by
 refine fk97.plain X X2 (by kernel_rfl) (m := 5) (by kernel_rfl) fun vals h S => ?_;refine el22 (lenS h) fun v0 r0 zr1 h0 => ?_;subst zr1;refine el22 (lenS h0) fun v1 r1 zr1 h1 => ?_;subst zr1;refine el22 (lenS h1) fun v2 r2 zr1 h2 => ?_;subst zr1;refine el22 (lenS h2) fun v3 r3 zr1 h3 => ?_;subst zr1;refine el22 (lenS h3) fun v4 r4 zr1 h4 => ?_;subst zr1;have hz := len0 h4;subst hz;exact fb97 S v0 v1 v2 v3 v4
theorem fk112 : FnK (KT w) 112 (fnOf [] (stmtAt 13)) := .of (q := nameS (stmtAt 13)) (m := 0) (c := 111) (dv := .none) (by kernel_rfl) (by kernel_rfl) (by kernel_rfl)
theorem fb112 (S : Setting) (v0 v1 : Value) : peek (KT w) S (bindArgs (fnData (KT w) 112) ⟨[v0, v1], []⟩) = some ((fnOf [] (stmtAt 13)).params.zip [v0, v1]) := by kernel_rfl
theorem fo112 (X : (KT w).In B) (X2 : ∀ p ∈ codesL, B.CodeRec (.ref p.1) p.2) : FnOk prog w B 112 (fnOf [] (stmtAt 13)) := by
 refine fk112.plain X X2 (by kernel_rfl) (m := 2) (by kernel_rfl) fun vals h S => ?_;refine el22 (lenS h) fun v0 r0 zr1 h0 => ?_;subst zr1;refine el22 (lenS h0) fun v1 r1 zr1 h1 => ?_;subst zr1;have hz := len0 h1;subst hz;exact fb112 S v0 v1
theorem fk117 : FnK (KT w) 117 (fnOf [] (stmtAt 14)) := .of (q := nameS (stmtAt 14)) (m := 0) (c := 116) (dv := .none) (by kernel_rfl) (by kernel_rfl) (by kernel_rfl)
theorem fb117 (S : Setting) (v0 v1 v2 : Value) : peek (KT w) S (bindArgs (fnData (KT w) 117) ⟨[v0, v1, v2], []⟩) = some ((fnOf [] (stmtAt 14)).params.zip [v0, v1, v2]) := by kernel_rfl
theorem fo117 (X : (KT w).In B) (X2 : ∀ p ∈ codesL, B.CodeRec (.ref p.1) p.2) : FnOk prog w B 117 (fnOf [] (stmtAt 14)) := by
 refine fk117.plain X X2 (by kernel_rfl) (m := 3) (by kernel_rfl) fun vals h S => ?_;refine el22 (lenS h) fun v0 r0 zr1 h0 => ?_;subst zr1;refine el22 (lenS h0) fun v1 r1 zr1 h1 => ?_;subst zr1;refine el22 (lenS h1) fun v2 r2 zr1 h2 => ?_;subst zr1;have hz := len0 h2;subst hz;exact fb117 S v0 v1 v2
theorem fk124 : FnK (KT w) 124 (fnOf [] (stmtAt 15)) := .of (q := nameS (stmtAt 15)) (m := 0) (c := 123) (dv := .none) (by kernel_rfl) (by kernel_rfl) (by kernel_rfl)
theorem fb124 (S : Setting) (v0 v1 : Value) : peek (KT w) S (bindArgs (fnData (KT w) 124) ⟨[v0, v1], []⟩) = some ((fnOf [] (stmtAt 15)).params.zip [v0, v1]) := by kernel_rfl
theorem fo124 (X : (KT w).In B) (X2 : ∀ p ∈ codesL, B.CodeRec (.ref p.1) p.2) : FnOk prog w B 124 (fnOf [] (stmtAt 15)) := by
 refine fk124.plain X X2 (by kernel_rfl) (m := 2) (by kernel_rfl) fun vals h S => ?_;refine el22 (lenS h) fun v0 r0 zr1 h0 => ?_;subst zr1;refine el22 (lenS h0) fun v1 r1 zr1 h1 => ?_;subst zr1;have hz := len0 h1;subst hz;exact fb124 S v0 v1
theorem fk131 : FnK (KT w) 131 (fnOf [] (stmtAt 16)) := .of (q := nameS (stmtAt 16)) (m := 0) (c := 130) (dv := .none) (by kernel_rfl) (by kernel_rfl) (by kernel_rfl)
theorem fb131 (S : Setting) (v0 v1 : Value) : peek (KT w) S (bindArgs (fnData (KT w) 131) ⟨[v0, v1], []⟩) = some ((fnOf [] (stmtAt 16)).params.zip [v0, v1]) := by kernel_rfl
theorem fo131 (X : (KT w).In B) (X2 : ∀ p ∈ codesL, B.CodeRec (.ref p.1) p.2) : FnOk prog w B 131 (fnOf [] (stmtAt 16)) := by
 refine fk131.plain X X2 (by kernel_rfl) (m := 2) (by kernel_rfl) fun vals h S => ?_;refine el22 (lenS h) fun v0 r0 zr1 h0 => ?_;subst zr1;refine el22 (lenS h0) fun v1 r1 zr1 h1 => ?_;subst zr1;have hz := len0 h1;subst hz;exact fb131 S v0 v1
theorem fk138 : FnK (KT w) 138 (fnOf [] (stmtAt 19)) := .of (q := nameS (stmtAt 19)) (m := 1) (c := 137) (dv := .none) (by kernel_rfl) (by kernel_rfl) (by kernel_rfl)
theorem fb138 (S : Setting) (v0 v1 : Value) : peek (KT w) S (bindArgs (fnData (KT w) 138) ⟨[v0, v1], []⟩) = some ((fnOf [] (stmtAt 19)).params.zip [v0, v1]) := by kernel_rfl
theorem fo138 (X : (KT w).In B) (X2 : ∀ p ∈ codesL, B.CodeRec (.ref p.1) p.2) : FnOk prog w B 138 (fnOf [] (stmtAt 19)) := by
 refine fk138.plain X X2 (by kernel_rfl) (m := 2) (by kernel_rfl) fun vals h S => ?_;refine el22 (lenS h) fun v0 r0 zr1 h0 => ?_;subst zr1;refine el22 (lenS h0) fun v1 r1 zr1 h1 => ?_;subst zr1;have hz := len0 h1;subst hz;exact fb138 S v0 v1
theorem fk145 : FnK (KT w) 145 (fnOf [] (stmtAt 21)) := .of (q := nameS (stmtAt 21)) (m := 2) (c := 144) (dv := .none) (by kernel_rfl) (by kernel_rfl) (by kernel_rfl)
theorem fb145 (S : Setting) (v0 v1 : Value) : peek (KT w) S (bindArgs (fnData (KT w) 145) ⟨[v0, v1], []⟩) = some ((fnOf [] (stmtAt 21)).params.zip [v0, v1]) := by kernel_rfl
theorem fo145 (X : (KT w).In B) (X2 : ∀ p ∈ codesL, B.CodeRec (.ref p.1) p.2) : FnOk prog w B 145 (fnOf [] (stmtAt 21)) := by
 refine fk145.plain X X2 (by kernel_rfl) (m := 2) (by kernel_rfl) fun vals h S => ?_;refine el22 (lenS h) fun v0 r0 zr1 h0 => ?_;subst zr1;refine el22 (lenS h0) fun v1 r1 zr1 h1 => ?_;subst zr1;have hz := len0 h1;subst hz;exact fb145 S v0 v1
theorem fk201 : FnK (KT w) 201 (fnOf [] (stmtAt 24)) := .of (q := nameS (stmtAt 24)) (m := 3) (c := 200) (dv := .none) (by kernel_rfl) (by kernel_rfl) (by kernel_rfl)
theorem fb201 (S : Setting) : peek (KT w) S (bindArgs (fnData (KT w) 201) ⟨[], []⟩) = some ((fnOf [] (stmtAt 24)).params.zip []) := by kernel_rfl
theorem fo201 (X : (KT w).In B) (X2 : ∀ p ∈ codesL, B.CodeRec (.ref p.1) p.2) : FnOk prog w B 201 (fnOf [] (stmtAt 24)) := by
 refine fk201.plain X X2 (by kernel_rfl) (m := 0) (by kernel_rfl) fun vals h S => ?_;have hz := len0 h;subst hz;exact fb201 S
theorem fk265 : FnK (KT w) 265 (fnOf [] (stmtAt 28)) := .of (q := nameS (stmtAt 28)) (m := 4) (c := 264) (dv := .none) (by kernel_rfl) (by kernel_rfl) (by kernel_rfl)
theorem fb265 (S : Setting) (v0 : Value) : peek (KT w) S (bindArgs (fnData (KT w) 265) ⟨[v0], []⟩) = some ((fnOf [] (stmtAt 28)).params.zip [v0]) := by kernel_rfl
theorem fo265 (X : (KT w).In B) (X2 : ∀ p ∈ codesL, B.CodeRec (.ref p.1) p.2) : FnOk prog w B 265 (fnOf [] (stmtAt 28)) := by
 refine fk265.plain X X2 (by kernel_rfl) (m := 1) (by kernel_rfl) fun vals h S => ?_;refine el22 (lenS h) fun v0 r0 zr1 h0 => ?_;subst zr1;have hz := len0 h0;subst hz;exact fb265 S v0
theorem fk272 : FnK (KT w) 272 (fnOf [] (stmtAt 29)) := .of (q := nameS (stmtAt 29)) (m := 4) (c := 271) (dv := .none) (by kernel_rfl) (by kernel_rfl) (by kernel_rfl)
theorem fb272 (S : Setting) (v0 v1 : Value) : peek (KT w) S (bindArgs (fnData (KT w) 272) ⟨[v0, v1], []⟩) = some ((fnOf [] (stmtAt 29)).params.zip [v0, v1]) := by kernel_rfl
theorem fo272 (X : (KT w).In B) (X2 : ∀ p ∈ codesL, B.CodeRec (.ref p.1) p.2) : FnOk prog w B 272 (fnOf [] (stmtAt 29)) := by
 refine fk272.plain X X2 (by kernel_rfl) (m := 2) (by kernel_rfl) fun vals h S => ?_;refine el22 (lenS h) fun v0 r0 zr1 h0 => ?_;subst zr1;refine el22 (lenS h0) fun v1 r1 zr1 h1 => ?_;subst zr1;have hz := len0 h1;subst hz;exact fb272 S v0 v1
theorem fk279 : FnK (KT w) 279 (fnOf [] (stmtAt 30)) := .of (q := nameS (stmtAt 30)) (m := 4) (c := 278) (dv := .none) (by kernel_rfl) (by kernel_rfl) (by kernel_rfl)
theorem fb279 (S : Setting) (v0 : Value) : peek (KT w) S (bindArgs (fnData (KT w) 279) ⟨[v0], []⟩) = some ((fnOf [] (stmtAt 30)).params.zip [v0]) := by kernel_rfl
theorem fo279 (X : (KT w).In B) (X2 : ∀ p ∈ codesL, B.CodeRec (.ref p.1) p.2) : FnOk prog w B 279 (fnOf [] (stmtAt 30)) := by
 refine fk279.plain X X2 (by kernel_rfl) (m := 1) (by kernel_rfl) fun vals h S => ?_;refine el22 (lenS h) fun v0 r0 zr1 h0 => ?_;subst zr1;have hz := len0 h0;subst hz;exact fb279 S v0
theorem fk284 : FnK (KT w) 284 (fnOf [] (stmtAt 31)) := .of (q := nameS (stmtAt 31)) (m := 4) (c := 283) (dv := .none) (by kernel_rfl) (by kernel_rfl) (by kernel_rfl)
theorem fb284 (S : Setting) (v0 : Value) : peek (KT w) S (bindArgs (fnData (KT w) 284) ⟨[v0], []⟩) = some ((fnOf [] (stmtAt 31)).params.zip [v0]) := by kernel_rfl
theorem fo284 (X : (KT w).In B) (X2 : ∀ p ∈ codesL, B.CodeRec (.ref p.1) p.2) : FnOk prog w B 284 (fnOf [] (stmtAt 31)) := by
 refine fk284.plain X X2 (by kernel_rfl) (m := 1) (by kernel_rfl) fun vals h S => ?_;refine el22 (lenS h) fun v0 r0 zr1 h0 => ?_;subst zr1;have hz := len0 h0;subst hz;exact fb284 S v0
theorem fk289 : FnK (KT w) 289 (fnOf [] (stmtAt 32)) := .of (q := nameS (stmtAt 32)) (m := 4) (c := 288) (dv := .none) (by kernel_rfl) (by kernel_rfl) (by kernel_rfl)
theorem fb289 (S : Setting) (v0 : Value) : peek (KT w) S (bindArgs (fnData (KT w) 289) ⟨[v0], []⟩) = some ((fnOf [] (stmtAt 32)).params.zip [v0]) := by kernel_rfl
theorem fo289 (X : (KT w).In B) (X2 : ∀ p ∈ codesL, B.CodeRec (.ref p.1) p.2) : FnOk prog w B 289 (fnOf [] (stmtAt 32)) := by
 refine fk289.plain X X2 (by kernel_rfl) (m := 1) (by kernel_rfl) fun vals h S => ?_;refine el22 (lenS h) fun v0 r0 zr1 h0 => ?_;subst zr1;have hz := len0 h0;subst hz;exact fb289 S v0
theorem fk294 : FnK (KT w) 294 (fnOf [] (stmtAt 33)) := .of (q := nameS (stmtAt 33)) (m := 4) (c := 293) (dv := .none) (by kernel_rfl) (by kernel_rfl) (by kernel_rfl)
theorem fb294 (S : Setting) (v0 v1 : Value) : peek (KT w) S (bindArgs (fnData (KT w) 294) ⟨[v0, v1], []⟩) = some ((fnOf [] (stmtAt 33)).params.zip [v0, v1]) := by kernel_rfl
theorem fo294 (X : (KT w).In B) (X2 : ∀ p ∈ codesL, B.CodeRec (.ref p.1) p.2) : FnOk prog w B 294 (fnOf [] (stmtAt 33)) := by
 refine fk294.plain X X2 (by kernel_rfl) (m := 2) (by kernel_rfl) fun vals h S => ?_;refine el22 (lenS h) fun v0 r0 zr1 h0 => ?_;subst zr1;refine el22 (lenS h0) fun v1 r1 zr1 h1 => ?_;subst zr1;have hz := len0 h1;subst hz;exact fb294 S v0 v1
theorem fk299 : FnK (KT w) 299 (fnOf [] (stmtAt 34)) := .of (q := nameS (stmtAt 34)) (m := 4) (c := 298) (dv := .none) (by kernel_rfl) (by kernel_rfl) (by kernel_rfl)
theorem fb299 (S : Setting) (v0 v1 v2 v3 : Value) : peek (KT w) S (bindArgs (fnData (KT w) 299) ⟨[v0, v1, v2, v3], []⟩) = some ((fnOf [] (stmtAt 34)).params.zip [v0, v1, v2, v3]) := by kernel_rfl
theorem fo299 (X : (KT w).In B) (X2 : ∀ p ∈ codesL, B.CodeRec (.ref p.1) p.2) : FnOk prog w B 299 (fnOf [] (stmtAt 34)) := by
 refine fk299.plain X X2 (by kernel_rfl) (m := 4) (by kernel_rfl) fun vals h S => ?_;refine el22 (lenS h) fun v0 r0 zr1 h0 => ?_;subst zr1;refine el22 (lenS h0) fun v1 r1 zr1 h1 => ?_;subst zr1;refine el22 (lenS h1) fun v2 r2 zr1 h2 => ?_;subst zr1;refine el22 (lenS h2) fun v3 r3 zr1 h3 => ?_;subst zr1;have hz := len0 h3;subst hz;exact fb299 S v0 v1 v2 v3
theorem fk306 : FnK (KT w) 306 (fnOf [] (stmtAt 35)) := .of (q := nameS (stmtAt 35)) (m := 4) (c := 305) (dv := .none) (by kernel_rfl) (by kernel_rfl) (by kernel_rfl)
theorem fb306 (S : Setting) (v0 : Value) : peek (KT w) S (bindArgs (fnData (KT w) 306) ⟨[v0], []⟩) = some ((fnOf [] (stmtAt 35)).params.zip [v0]) := by kernel_rfl
theorem fo306 (X : (KT w).In B) (X2 : ∀ p ∈ codesL, B.CodeRec (.ref p.1) p.2) : FnOk prog w B 306 (fnOf [] (stmtAt 35)) := by
 refine fk306.plain X X2 (by kernel_rfl) (m := 1) (by kernel_rfl) fun vals h S => ?_;refine el22 (lenS h) fun v0 r0 zr1 h0 => ?_;subst zr1;have hz := len0 h0;subst hz;exact fb306 S v0
theorem fk313 : FnK (KT w) 313 (fnOf [] (stmtAt 36)) := .of (q := nameS (stmtAt 36)) (m := 4) (c := 312) (dv := .none) (by kernel_rfl) (by kernel_rfl) (by kernel_rfl)
theorem fb313 (S : Setting) (v0 v1 : Value) : peek (KT w) S (bindArgs (fnData (KT w) 313) ⟨[v0, v1], []⟩) = some ((fnOf [] (stmtAt 36)).params.zip [v0, v1]) := by kernel_rfl
theorem fo313 (X : (KT w).In B) (X2 : ∀ p ∈ codesL, B.CodeRec (.ref p.1) p.2) : FnOk prog w B 313 (fnOf [] (stmtAt 36)) := by
 refine fk313.plain X X2 (by kernel_rfl) (m := 2) (by kernel_rfl) fun vals h S => ?_;refine el22 (lenS h) fun v0 r0 zr1 h0 => ?_;subst zr1;refine el22 (lenS h0) fun v1 r1 zr1 h1 => ?_;subst zr1;have hz := len0 h1;subst hz;exact fb313 S v0 v1
theorem fk320 : FnK (KT w) 320 (fnOf [] (stmtAt 37)) := .of (q := nameS (stmtAt 37)) (m := 4) (c := 319) (dv := .none) (by kernel_rfl) (by kernel_rfl) (by kernel_rfl)
theorem fb320 (S : Setting) (v0 v1 : Value) : peek (KT w) S (bindArgs (fnData (KT w) 320) ⟨[v0, v1], []⟩) = some ((fnOf [] (stmtAt 37)).params.zip [v0, v1]) := by kernel_rfl
theorem fo320 (X : (KT w).In B) (X2 : ∀ p ∈ codesL, B.CodeRec (.ref p.1) p.2) : FnOk prog w B 320 (fnOf [] (stmtAt 37)) := by
 refine fk320.plain X X2 (by kernel_rfl) (m := 2) (by kernel_rfl) fun vals h S => ?_;refine el22 (lenS h) fun v0 r0 zr1 h0 => ?_;subst zr1;refine el22 (lenS h0) fun v1 r1 zr1 h1 => ?_;subst zr1;have hz := len0 h1;subst hz;exact fb320 S v0 v1
theorem fk325 : FnK (KT w) 325 (fnOf [] (stmtAt 38)) := .of (q := nameS (stmtAt 38)) (m := 4) (c := 324) (dv := .none) (by kernel_rfl) (by kernel_rfl) (by kernel_rfl)
theorem fb325 (S : Setting) (v0 v1 v2 : Value) : peek (KT w) S (bindArgs (fnData (KT w) 325) ⟨[v0, v1, v2], []⟩) = some ((fnOf [] (stmtAt 38)).params.zip [v0, v1, v2]) := by kernel_rfl
theorem fo325 (X : (KT w).In B) (X2 : ∀ p ∈ codesL, B.CodeRec (.ref p.1) p.2) : FnOk prog w B 325 (fnOf [] (stmtAt 38)) := by
 refine fk325.plain X X2 (by kernel_rfl) (m := 3) (by kernel_rfl) fun vals h S => ?_;refine el22 (lenS h) fun v0 r0 zr1 h0 => ?_;subst zr1;refine el22 (lenS h0) fun v1 r1 zr1 h1 => ?_;subst zr1;refine el22 (lenS h1) fun v2 r2 zr1 h2 => ?_;subst zr1;have hz := len0 h2;subst hz;exact fb325 S v0 v1 v2
theorem fk332 : FnK (KT w) 332 (fnOf [] (stmtAt 39)) := .of (q := nameS (stmtAt 39)) (m := 4) (c := 331) (dv := .none) (by kernel_rfl) (by kernel_rfl) (by kernel_rfl)
theorem fb332 (S : Setting) (v0 v1 v2 : Value) : peek (KT w) S (bindArgs (fnData (KT w) 332) ⟨[v0, v1, v2], []⟩) = some ((fnOf [] (stmtAt 39)).params.zip [v0, v1, v2]) := by kernel_rfl
theorem fo332 (X : (KT w).In B) (X2 : ∀ p ∈ codesL, B.CodeRec (.ref p.1) p.2) : FnOk prog w B 332 (fnOf [] (stmtAt 39)) := by
 refine fk332.plain X X2 (by kernel_rfl) (m := 3) (by kernel_rfl) fun vals h S => ?_;refine el22 (lenS h) fun v0 r0 zr1 h0 => ?_;subst zr1;refine el22 (lenS h0) fun v1 r1 zr1 h1 => ?_;subst zr1;refine el22 (lenS h1) fun v2 r2 zr1 h2 => ?_;subst zr1;have hz := len0 h2;subst hz;exact fb332 S v0 v1 v2
theorem fk337 : FnK (KT w) 337 (fnOf [] (stmtAt 40)) := .of (q := nameS (stmtAt 40)) (m := 4) (c := 336) (dv := .none) (by kernel_rfl) (by kernel_rfl) (by kernel_rfl)
theorem fb337 (S : Setting) (v0 : Value) : peek (KT w) S (bindArgs (fnData (KT w) 337) ⟨[v0], []⟩) = some ((fnOf [] (stmtAt 40)).params.zip [v0]) := by kernel_rfl
theorem fo337 (X : (KT w).In B) (X2 : ∀ p ∈ codesL, B.CodeRec (.ref p.1) p.2) : FnOk prog w B 337 (fnOf [] (stmtAt 40)) := by
 refine fk337.plain X X2 (by kernel_rfl) (m := 1) (by kernel_rfl) fun vals h S => ?_;refine el22 (lenS h) fun v0 r0 zr1 h0 => ?_;subst zr1;have hz := len0 h0;subst hz;exact fb337 S v0
theorem fk69 : FnK (KT w) 69 (fnOf [] (methAt 10 0)) := .of (q := "ScriptRuns.__init__") (m := 0) (c := 68) (dv := .none) (by kernel_rfl) (by kernel_rfl) (by kernel_rfl)
theorem fb69 (S : Setting) (v0 v1 v2 v3 : Value) : peek (KT w) S (bindArgs (fnData (KT w) 69) ⟨[v0, v1, v2, v3], []⟩) = some ((fnOf [] (methAt 10 0)).params.zip [v0, v1, v2, v3]) := by kernel_rfl
theorem fo69 (X : (KT w).In B) (X2 : ∀ p ∈ codesL, B.CodeRec (.ref p.1) p.2) : FnOk prog w B 69 (fnOf [] (methAt 10 0)) := by
 refine fk69.plain X X2 (by kernel_rfl) (m := 4) (by kernel_rfl) fun vals h S => ?_;refine el22 (lenS h) fun v0 r0 zr1 h0 => ?_;subst zr1;refine el22 (lenS h0) fun v1 r1 zr1 h1 => ?_;subst zr1;refine el22 (lenS h1) fun v2 r2 zr1 h2 => ?_;subst zr1;refine el22 (lenS h2) fun v3 r3 zr1 h3 => ?_;subst zr1;have hz := len0 h3;subst hz;exact fb69 S v0 v1 v2 v3
theorem fk76 : FnK (KT w) 76 (fnOf [] (methAt 10 1)) := .of (q := "ScriptRuns.put") (m := 0) (c := 75) (dv := .none) (by kernel_rfl) (by kernel_rfl) (by kernel_rfl)
theorem fb76 (S : Setting) (v0 v1 v2 : Value) : peek (KT w) S (bindArgs (fnData (KT w) 76) ⟨[v0, v1, v2], []⟩) = some ((fnOf [] (methAt 10 1)).params.zip [v0, v1, v2]) := by kernel_rfl
theorem fo76 (X : (KT w).In B) (X2 : ∀ p ∈ codesL, B.CodeRec (.ref p.1) p.2) : FnOk prog w B 76 (fnOf [] (methAt 10 1)) := by
 refine fk76.plain X X2 (by kernel_rfl) (m := 3) (by kernel_rfl) fun vals h S => ?_;refine el22 (lenS h) fun v0 r0 zr1 h0 => ?_;subst zr1;refine el22 (lenS h0) fun v1 r1 zr1 h1 => ?_;subst zr1;refine el22 (lenS h1) fun v2 r2 zr1 h2 => ?_;subst zr1;have hz := len0 h2;subst hz;exact fb76 S v0 v1 v2
theorem fk83 : FnK (KT w) 83 (fnOf [] (methAt 10 2)) := .of (q := "ScriptRuns.closing") (m := 0) (c := 82) (dv := .none) (by kernel_rfl) (by kernel_rfl) (by kernel_rfl)
theorem fb83 (S : Setting) (v0 v1 v2 : Value) : peek (KT w) S (bindArgs (fnData (KT w) 83) ⟨[v0, v1, v2], []⟩) = some ((fnOf [] (methAt 10 2)).params.zip [v0, v1, v2]) := by kernel_rfl
theorem fo83 (X : (KT w).In B) (X2 : ∀ p ∈ codesL, B.CodeRec (.ref p.1) p.2) : FnOk prog w B 83 (fnOf [] (methAt 10 2)) := by
 refine fk83.plain X X2 (by kernel_rfl) (m := 3) (by kernel_rfl) fun vals h S => ?_;refine el22 (lenS h) fun v0 r0 zr1 h0 => ?_;subst zr1;refine el22 (lenS h0) fun v1 r1 zr1 h1 => ?_;subst zr1;refine el22 (lenS h1) fun v2 r2 zr1 h2 => ?_;subst zr1;have hz := len0 h2;subst hz;exact fb83 S v0 v1 v2
theorem fk159 : FnK (KT w) 159 (fnOf [] (methAt 22 0)) := .of (q := "RangeMap.__init__") (m := 2) (c := 158) (dv := .none) (by kernel_rfl) (by kernel_rfl) (by kernel_rfl)
theorem fb159 (S : Setting) (v0 v1 : Value) : peek (KT w) S (bindArgs (fnData (KT w) 159) ⟨[v0, v1], []⟩) = some ((fnOf [] (methAt 22 0)).params.zip [v0, v1]) := by kernel_rfl
theorem fo159 (X : (KT w).In B) (X2 : ∀ p ∈ codesL, B.CodeRec (.ref p.1) p.2) : FnOk prog w B 159 (fnOf [] (methAt 22 0)) := by
 refine fk159.plain X X2 (by kernel_rfl) (m := 2) (by kernel_rfl) fun vals h S => ?_;refine el22 (lenS h) fun v0 r0 zr1 h0 => ?_;subst zr1;refine el22 (lenS h0) fun v1 r1 zr1 h1 => ?_;subst zr1;have hz := len0 h1;subst hz;exact fb159 S v0 v1
theorem fk166 : FnK (KT w) 166 (fnOf [] (methAt 22 1)) := .of (q := "RangeMap.get") (m := 2) (c := 165) (dv := .none) (by kernel_rfl) (by kernel_rfl) (by kernel_rfl)
theorem fb166 (S : Setting) (v0 v1 : Value) : peek (KT w) S (bindArgs (fnData (KT w) 166) ⟨[v0, v1], []⟩) = some ((fnOf [] (methAt 22 1)).params.zip [v0, v1]) := by kernel_rfl
theorem fo166 (X : (KT w).In B) (X2 : ∀ p ∈ codesL, B.CodeRec (.ref p.1) p.2) : FnOk prog w B 166 (fnOf [] (methAt 22 1)) := by
 refine fk166.plain X X2 (by kernel_rfl) (m := 2) (by kernel_rfl) fun vals h S => ?_;refine el22 (lenS h) fun v0 r0 zr1 h0 => ?_;subst zr1;refine el22 (lenS h0) fun v1 r1 zr1 h1 => ?_;subst zr1;have hz := len0 h1;subst hz;exact fb166 S v0 v1
theorem fk173 : FnK (KT w) 173 (fnOf [] (methAt 22 2)) := .of (q := "RangeMap.put") (m := 2) (c := 172) (dv := .none) (by kernel_rfl) (by kernel_rfl) (by kernel_rfl)
theorem fb173 (S : Setting) (v0 v1 v2 v3 : Value) : peek (KT w) S (bindArgs (fnData (KT w) 173) ⟨[v0, v1, v2, v3], []⟩) = some ((fnOf [] (methAt 22 2)).params.zip [v0, v1, v2, v3]) := by kernel_rfl
theorem fo173 (X : (KT w).In B) (X2 : ∀ p ∈ codesL, B.CodeRec (.ref p.1) p.2) : FnOk prog w B 173 (fnOf [] (methAt 22 2)) := by
 refine fk173.plain X X2 (by kernel_rfl) (m := 4) (by kernel_rfl) fun vals h S => ?_;refine el22 (lenS h) fun v0 r0 zr1 h0 => ?_;subst zr1;refine el22 (lenS h0) fun v1 r1 zr1 h1 => ?_;subst zr1;refine el22 (lenS h1) fun v2 r2 zr1 h2 => ?_;subst zr1;refine el22 (lenS h2) fun v3 r3 zr1 h3 => ?_;subst zr1;have hz := len0 h3;subst hz;exact fb173 S v0 v1 v2 v3
theorem fk215 : FnK (KT w) 215 (fnOf [] (methAt 25 0)) := .of (q := "Data.__init__") (m := 3) (c := 214) (dv := .none) (by kernel_rfl) (by kernel_rfl) (by kernel_rfl)
theorem fb215 (S : Setting) (v0 : Value) : peek (KT w) S (bindArgs (fnData (KT w) 215) ⟨[v0], []⟩) = some ((fnOf [] (methAt 25 0)).params.zip [v0]) := by kernel_rfl
theorem fo215 (X : (KT w).In B) (X2 : ∀ p ∈ codesL, B.CodeRec (.ref p.1) p.2) : FnOk prog w B 215 (fnOf [] (methAt 25 0)) := by
 refine fk215.plain X X2 (by kernel_rfl) (m := 1) (by kernel_rfl) fun vals h S => ?_;refine el22 (lenS h) fun v0 r0 zr1 h0 => ?_;subst zr1;have hz := len0 h0;subst hz;exact fb215 S v0
theorem fk222 : FnK (KT w) 222 (fnOf [] (methAt 25 1)) := .of (q := "Data.put") (m := 3) (c := 221) (dv := .none) (by kernel_rfl) (by kernel_rfl) (by kernel_rfl)
theorem fb222 (S : Setting) (v0 v1 v2 v3 v4 : Value) : peek (KT w) S (bindArgs (fnData (KT w) 222) ⟨[v0, v1, v2, v3, v4], []⟩) = some ((fnOf [] (methAt 25 1)).params.zip [v0, v1, v2, v3, v4]) := by kernel_rfl
theorem fo222 (X : (KT w).In B) (X2 : ∀ p ∈ codesL, B.CodeRec (.ref p.1) p.2) : FnOk prog w B 222 (fnOf [] (methAt 25 1)) := by
 refine fk222.plain X X2 (by kernel_rfl) (m := 5) (by kernel_rfl) fun vals h S => ?_;refine el22 (lenS h) fun v0 r0 zr1 h0 => ?_;subst zr1;refine el22 (lenS h0) fun v1 r1 zr1 h1 => ?_;subst zr1;refine el22 (lenS h1) fun v2 r2 zr1 h2 => ?_;subst zr1;refine el22 (lenS h2) fun v3 r3 zr1 h3 => ?_;subst zr1;refine el22 (lenS h3) fun v4 r4 zr1 h4 => ?_;subst zr1;have hz := len0 h4;subst hz;exact fb222 S v0 v1 v2 v3 v4
theorem fk229 : FnK (KT w) 229 (fnOf [] (methAt 25 2)) := .of (q := "Data.get") (m := 3) (c := 228) (dv := .none) (by kernel_rfl) (by kernel_rfl) (by kernel_rfl)
theorem fb229 (S : Setting) (v0 v1 v2 : Value) : peek (KT w) S (bindArgs (fnData (KT w) 229) ⟨[v0, v1, v2], []⟩) = some ((fnOf [] (methAt 25 2)).params.zip [v0, v1, v2]) := by kernel_rfl
theorem fo229 (X : (KT w).In B) (X2 : ∀ p ∈ codesL, B.CodeRec (.ref p.1) p.2) : FnOk prog w B 229 (fnOf [] (methAt 25 2)) := by
 refine fk229.plain X X2 (by kernel_rfl) (m := 3) (by kernel_rfl) fun vals h S => ?_;refine el22 (lenS h) fun v0 r0 zr1 h0 => ?_;subst zr1;refine el22 (lenS h0) fun v1 r1 zr1 h1 => ?_;subst zr1;refine el22 (lenS h1) fun v2 r2 zr1 h2 => ?_;subst zr1;have hz := len0 h2;subst hz;exact fb229 S v0 v1 v2
theorem fk236 : FnK (KT w) 236 (fnOf [] (methAt 25 3)) := .of (q := "Data.map_of") (m := 3) (c := 235) (dv := .none) (by kernel_rfl) (by kernel_rfl) (by kernel_rfl)
theorem fb236 (S : Setting) (v0 v1 : Value) : peek (KT w) S (bindArgs (fnData (KT w) 236) ⟨[v0, v1], []⟩) = some ((fnOf [] (methAt 25 3)).params.zip [v0, v1]) := by kernel_rfl
theorem fo236 (X : (KT w).In B) (X2 : ∀ p ∈ codesL, B.CodeRec (.ref p.1) p.2) : FnOk prog w B 236 (fnOf [] (methAt 25 3)) := by
 refine fk236.plain X X2 (by kernel_rfl) (m := 2) (by kernel_rfl) fun vals h S => ?_;refine el22 (lenS h) fun v0 r0 zr1 h0 => ?_;subst zr1;refine el22 (lenS h0) fun v1 r1 zr1 h1 => ?_;subst zr1;have hz := len0 h1;subst hz;exact fb236 S v0 v1
end
end Mine
end

-- ZH
section
namespace Mine
section
variable {prog : Program} {w : World} {B : Heap}
theorem fk105 : FnK (KT w) 105 (fnOf [.bool false, .int 32] (stmtAt 12)) := .of (q := "runs") (m := 0) (c := 104) (dv := .ref 98) (by kernel_rfl) (by kernel_rfl) (by kernel_rfl)
noncomputable def t98 (w : World) : Tok := match seqK (KT w) "tuple" 98 with
 | some (vs, _) => (match (vs[1]? : Option Value) with | some (Value.int _ t) => t | _ => 0)
 | none => 0
theorem fb105_2 (S : Setting) (a b : Value) : peek (KT w) S (bindArgs (fnData (KT w) 105) ⟨[a, b], []⟩) = some ((fnOf [.bool false, .int 32] (stmtAt 12)).params.zip ([a, b] ++ [.bool false, .int 32 (t98 w)])) := by kernel_rfl
theorem fb105_3 (S : Setting) (a b c : Value) : peek (KT w) S (bindArgs (fnData (KT w) 105) ⟨[a, b, c], []⟩) = some ((fnOf [.bool false, .int 32] (stmtAt 12)).params.zip ([a, b, c] ++ [.int 32 (t98 w)])) := by kernel_rfl
theorem fb105_4 (S : Setting) (a b c d : Value) : peek (KT w) S (bindArgs (fnData (KT w) 105) ⟨[a, b, c, d], []⟩) = some ((fnOf [.bool false, .int 32] (stmtAt 12)).params.zip ([a, b, c, d] ++ [])) := by kernel_rfl
theorem fp105 : (fnOf [.bool false, .int 32] (stmtAt 12)).params.length = 4 := by kernel_rfl
theorem l234 : ∀ n : Nat, 4 ≤ n + 2 → n ≤ 4 → n = 2 ∨ n = 3 ∨ n = 4
 | 0, h, _ => absurd h (by decide)
 | 1, h, _ => absurd h (by decide)
 | 2, _, _ => .inl rfl
 | 3, _, _ => .inr (.inl rfl)
 | 4, _, _ => .inr (.inr rfl)
 | n + 5, _, h => absurd h (Nat.not_le.2 (Nat.le_add_left 5 n))
theorem fo105 (X : (KT w).In B) (X2 : ∀ p ∈ codesL, B.CodeRec (.ref p.1) p.2) : FnOk prog w B 105 (fnOf [.bool false, .int 32] (stmtAt 12)) := by
 refine fk105.ok X X2 fun vals l1 l2 => ?_;have l2' : 4 ≤ vals.length + 2 := fp105 ▸ l2;have l1' : vals.length ≤ 4 := fp105 ▸ l1;rcases l234 _ l2' l1' with h | h | h
 ·refine el22 (lenS h) fun a r0 zr1 h0 => ?_;subst zr1;refine el22 (lenS h0) fun b r1 zr1 h1 => ?_;subst zr1;have hz := len0 h1;subst hz;exact in12 ([.bool false, .int 32 (t98 w)]) (.cons (.bool _) (.cons (.int _ _) .nil)) (fun S => fb105_2 S a b)
 ·refine el22 (lenS h) fun a r0 zr1 h0 => ?_;subst zr1;refine el22 (lenS h0) fun b r1 zr1 h1 => ?_;subst zr1;refine el22 (lenS h1) fun c r2 zr1 h2 => ?_;subst zr1;have hz := len0 h2;subst hz;exact in12 ([.int 32 (t98 w)]) (.cons (.int _ _) .nil) (fun S => fb105_3 S a b c)
 ·refine el22 (lenS h) fun a r0 zr1 h0 => ?_;subst zr1;refine el22 (lenS h0) fun b r1 zr1 h1 => ?_;subst zr1;refine el22 (lenS h1) fun c r2 zr1 h2 => ?_;subst zr1;refine el22 (lenS h2) fun d r3 zr1 h3 => ?_;subst zr1;have hz := len0 h3;subst hz;exact in12 ([]) .nil (fun S => fb105_4 S a b c d)
theorem top_fns (X : (KT w).In B) (X2 : ∀ p ∈ codesL, B.CodeRec (.ref p.1) p.2) : ∀ a f, ge.fn a = some f → FnOk prog w B a f :=
 fns_of (List.forall_mem_cons.mpr ⟨fo29 X X2, List.forall_mem_cons.mpr ⟨fo36 X X2, List.forall_mem_cons.mpr ⟨fo43 X X2, List.forall_mem_cons.mpr ⟨fo48 X X2, List.forall_mem_cons.mpr ⟨fo55 X X2, List.forall_mem_cons.mpr ⟨fo97 X X2, List.forall_mem_cons.mpr ⟨fo112 X X2, List.forall_mem_cons.mpr ⟨fo117 X X2, List.forall_mem_cons.mpr ⟨fo124 X X2, List.forall_mem_cons.mpr ⟨fo131 X X2, List.forall_mem_cons.mpr ⟨fo138 X X2, List.forall_mem_cons.mpr ⟨fo145 X X2, List.forall_mem_cons.mpr ⟨fo201 X X2, List.forall_mem_cons.mpr ⟨fo265 X X2, List.forall_mem_cons.mpr ⟨fo272 X X2, List.forall_mem_cons.mpr ⟨fo279 X X2, List.forall_mem_cons.mpr ⟨fo284 X X2, List.forall_mem_cons.mpr ⟨fo289 X X2, List.forall_mem_cons.mpr ⟨fo294 X X2, List.forall_mem_cons.mpr ⟨fo299 X X2, List.forall_mem_cons.mpr ⟨fo306 X X2, List.forall_mem_cons.mpr ⟨fo313 X X2, List.forall_mem_cons.mpr ⟨fo320 X X2, List.forall_mem_cons.mpr ⟨fo325 X X2, List.forall_mem_cons.mpr ⟨fo332 X X2, List.forall_mem_cons.mpr ⟨fo337 X X2, fun O h => nomatch h⟩⟩⟩⟩⟩⟩⟩⟩⟩⟩⟩⟩⟩⟩⟩⟩⟩⟩⟩⟩⟩⟩⟩⟩⟩⟩) (List.forall_mem_cons.mpr ⟨fo69 X X2, List.forall_mem_cons.mpr ⟨fo76 X X2, List.forall_mem_cons.mpr ⟨fo83 X X2, List.forall_mem_cons.mpr ⟨fo159 X X2, List.forall_mem_cons.mpr ⟨fo166 X X2, List.forall_mem_cons.mpr ⟨fo173 X X2, List.forall_mem_cons.mpr ⟨fo215 X X2, List.forall_mem_cons.mpr ⟨fo222 X X2, List.forall_mem_cons.mpr ⟨fo229 X X2, List.forall_mem_cons.mpr ⟨fo236 X X2, fun O h => nomatch h⟩⟩⟩⟩⟩⟩⟩⟩⟩⟩) (fo105 X X2)
theorem top_names : (globs.all fun p => nameK (KT w) p.1 p.2) = true := by kernel_rfl
noncomputable def biOk (p : Str × D) : Bool := match p.2 with
 | .bi b => bootBuiltins p.1 == some b.val
 | _ => true
theorem top_bi0 : globs.all biOk = true := by kernel_rfl
theorem top_bi : ∀ p ∈ globs, ∀ b, p.2 = .bi b → bootBuiltins p.1 = some b.val := by
 intro p hp b hb;have := List.all_eq_true.mp top_bi0 p hp;unfold biOk at this;rw [hb] at this;exact beq_iff_eq.mp this
theorem cl86 : ClOk (KT w) 86 ((clAt 86).getD ⟨0, [], []⟩) := ⟨by kernel_rfl, by kernel_rfl, by kernel_rfl, by kernel_rfl, by kernel_rfl, by kernel_rfl, by kernel_rfl, by kernel_rfl,
 List.forall_mem_cons.mpr ⟨⟨by kernel_rfl, by kernel_rfl⟩, List.forall_mem_cons.mpr ⟨⟨by kernel_rfl, by kernel_rfl⟩, fun O h => nomatch h⟩⟩,
 List.forall_mem_cons.mpr ⟨⟨by kernel_rfl, by kernel_rfl⟩, List.forall_mem_cons.mpr ⟨⟨by kernel_rfl, by kernel_rfl⟩, List.forall_mem_cons.mpr ⟨⟨by kernel_rfl, by kernel_rfl⟩, List.forall_mem_cons.mpr ⟨⟨by kernel_rfl, by kernel_rfl⟩, List.forall_mem_cons.mpr ⟨⟨by kernel_rfl, by kernel_rfl⟩, List.forall_mem_cons.mpr ⟨⟨by kernel_rfl, by kernel_rfl⟩, fun O h => nomatch h⟩⟩⟩⟩⟩⟩⟩
theorem cl190 : ClOk (KT w) 190 ((clAt 190).getD ⟨0, [], []⟩) := ⟨by kernel_rfl, by kernel_rfl, by kernel_rfl, by kernel_rfl, by kernel_rfl, by kernel_rfl, by kernel_rfl, by kernel_rfl,
 List.forall_mem_cons.mpr ⟨⟨by kernel_rfl, by kernel_rfl⟩, List.forall_mem_cons.mpr ⟨⟨by kernel_rfl, by kernel_rfl⟩, fun O h => nomatch h⟩⟩,
 List.forall_mem_cons.mpr ⟨⟨by kernel_rfl, by kernel_rfl⟩, List.forall_mem_cons.mpr ⟨⟨by kernel_rfl, by kernel_rfl⟩, List.forall_mem_cons.mpr ⟨⟨by kernel_rfl, by kernel_rfl⟩, fun O h => nomatch h⟩⟩⟩⟩
theorem cl239 : ClOk (KT w) 239 ((clAt 239).getD ⟨0, [], []⟩) := ⟨by kernel_rfl, by kernel_rfl, by kernel_rfl, by kernel_rfl, by kernel_rfl, by kernel_rfl, by kernel_rfl, by kernel_rfl,
 List.forall_mem_cons.mpr ⟨⟨by kernel_rfl, by kernel_rfl⟩, List.forall_mem_cons.mpr ⟨⟨by kernel_rfl, by kernel_rfl⟩, List.forall_mem_cons.mpr ⟨⟨by kernel_rfl, by kernel_rfl⟩, fun O h => nomatch h⟩⟩⟩,
 List.forall_mem_cons.mpr ⟨⟨by kernel_rfl, by kernel_rfl⟩, List.forall_mem_cons.mpr ⟨⟨by kernel_rfl, by kernel_rfl⟩, List.forall_mem_cons.mpr ⟨⟨by kernel_rfl, by kernel_rfl⟩, List.forall_mem_cons.mpr ⟨⟨by kernel_rfl, by kernel_rfl⟩, fun O h => nomatch h⟩⟩⟩⟩⟩
set_option tactic.hygienic true in
theorem top_cls : ∀ C c, ge.cls C = some c → ClOk (KT w) C c ∧ ∀ p ∈ c.meths, ∃ f, ge.fn p.2 = some f := by
 intro C c hc;have hc' : clAt C = some c := hc;have h := hc';unfold clAt at h
 split at h
 ·rename_i e;subst e
  have : c = (clAt 86).getD ⟨0, [], []⟩ := by rw [hc']; rfl
  refine ⟨this ▸ cl86, ?_⟩;cases h;exact List.forall_mem_cons.mpr ⟨⟨_, rfl⟩, List.forall_mem_cons.mpr ⟨⟨_, rfl⟩, fun _ h => nomatch h⟩⟩
 ·split at h
  ·rename_i e;subst e
   have : c = (clAt 190).getD ⟨0, [], []⟩ := by rw [hc']; rfl
   refine ⟨this ▸ cl190, ?_⟩;cases h;exact List.forall_mem_cons.mpr ⟨⟨_, rfl⟩, List.forall_mem_cons.mpr ⟨⟨_, rfl⟩, fun _ h => nomatch h⟩⟩
  ·split at h
   ·rename_i e;subst e
    have : c = (clAt 239).getD ⟨0, [], []⟩ := by rw [hc']; rfl
    refine ⟨this ▸ cl239, ?_⟩;cases h;exact List.forall_mem_cons.mpr ⟨⟨_, rfl⟩, List.forall_mem_cons.mpr ⟨⟨_, rfl⟩, List.forall_mem_cons.mpr ⟨⟨_, rfl⟩, fun _ h => nomatch h⟩⟩⟩
   ·exact nn h
theorem top_ok {mg mb : Str → Option Value} (X : (KT w).In B) (X2 : ∀ p ∈ codesL, B.CodeRec (.ref p.1) p.2) (G : B.Ns mainGlobals mg) (Gb : B.Ns builtinsNs mb) (hb : ∀ x : Str, x ≠ "__name__" → mb x = bootBuiltins x) (nol : B.NoLimit) (sn : B.NoSeer) : GOk prog w B ge (KT w) where
 kin := X
 nol := nol
 sys := by
  refine el12 (sn.mods) fun mm zq1 O => ?_;refine el32 zq1 fun o es ep e O => ?_;clear zq1;rw [e]; rfl
 names := names_of X G Gb hb top_names top_bi
 fns := top_fns X X2
 cls := fun C c h => (top_cls (w := w) C c h).1
 mth := fun C c h => (top_cls (w := w) C c h).2
end
end Mine
end

-- ZI
section
namespace Mine
theorem well_ints {P : Params} {h B : Heap} {ρ : List Addr} : ∀ {ns : List Int} {vs : List Value}, WellAll P h vs (ns.map WData.int) → VL B ρ h vs (ns.map Mine.D.int)
 | [], _, h => by cases h; exact .nil
 | n :: ns, _, h => by
  cases h with
  | cons h1 h2 =>
   cases h1 with
   | int _ t => exact .cons (.int n t) (well_ints h2)
theorem law_good {w : World} {s₁ : Shared} {ns : List Int} {a : Addr} {vs : List Value} {R : Result → Shared → Prop} {H' : AH} (G : GOk PySem.Challenge.rw_nt0023_01.row.prog w s₁.heap ge (KT w)) (hg : s₁.gens = #[])
  (h1 : s₁.heap.get? a = some { cls := .type "list", data := .seq vs.toArray }) (h2 : VL s₁.heap [] s₁.heap vs (ns.map Mine.D.int)) (hlaw : (ev ge 300).cl (.fn 337) [.fl (ns.map .int)] [] = some (.bool true, H'))
  (fin : ∀ s', (∀ b o, s₁.heap.get? b = some o → s'.heap.get? b = some o) → s'.os = s₁.os → s'.gens = #[] → R (.ok (.ret (.bool true))) s') :
  codeAny (model PySem.Challenge.rw_nt0023_01.row.prog w) callerA (.call (.ref 337) ⟨[.ref a], []⟩) R s₁ := by
 have S := sound G 300;have W0 : WR PySem.Challenge.rw_nt0023_01.row.prog w s₁.heap [] [] s₁.heap := ⟨fun O O e => e, List.nodup_nil, (fun O h => nomatch h), rfl, fun O O O h => by simp at h⟩;have A0 : AOk 300 callerA := ⟨rfl, rfl, by decide, by decide⟩;refine codeAny_mono (S.fn 337 _ _ _ _ hlaw callerA s₁ [] [.ref a] A0 W0 (.cons (.fl h1 (by simpa using h2)) .nil)) fun r s' hr => ?_
 rcases r with e | (_ | _ | _ | v) <;> try exact hr.elim
 refine el13 hr fun ρ' Rn W' V' => ?_;clear hr;obtain ⟨⟨h', tk, rfl⟩, _, kp, _⟩ := Rn;cases V';exact fin _ (fun b o e => kp b o (by simp) (fun x => x) e) rfl hg
set_option tactic.hygienic true in
theorem lawD (hlaw : ∀ ns : List Int, ns.length ≤ 63 → ∃ H', (ev ge 300).cl (.fn 337) [.fl (ns.map .int)] [] = some (.bool true, H')) : PySem.Challenge.rw_nt0023_01.Holds := by
 refine holds_law (by kernel_rfl) fun said => ?_
 refine holds_open (q := viewQ) (loose := lseL) (Xt := seenX) (XP := XL viewQ []) (Yf := hookK.obs) (Ya := hookK.val) (YP := hookK.says) (N := 4148) left_ok hookK.of hookK.keeps (fun s e => xl_of s (Bool.and_eq_true_iff.mp e).1) XL.keeps (by rfl) (by rfl) (by rfl)
  (fun s e => recFacts_of (Bool.and_eq_true_iff.mp e).2) (by rfl) (by assumption) (by decide +kernel) ⟨rfl, rfl, rfl, rfl, rfl, by decide +kernel⟩ ?hw ?hc
 case hw => w_witness2
 case hc =>
 intro w s₀ s₁ mg mb G Y fa o pm cd doc dV kV ho hd hcd hD hmg hg args vals as hpre hlay hrd hwl hlo;have KX : (KF w.params).In s₁.heap := Y.1;have KC : ∀ p ∈ codesL, s₁.heap.CodeRec (.ref p.1) p.2 := Y.2;refine Ground.open G ?_;intro T B D TE TW
 have hfa : fa = 337 := by
  have h1 : globK (KT w) ("law" : Str) = some (some (.ref 337)) := by kernel_rfl
  have h2 := globK_of KX T.g h1;have h3 : mg ("law" : Str) = some (.ref fa) := hmg;rw [h3] at h2;cases h2; rfl
 subst hfa;clear hcd hD hd
 wrow_args hpre hlay hrd hwl hlo
 all_goals refine enter_call ?_
 rename_i ns hs x1 x2 x3 x4 as1 as2 a vs as3 hL ra w1 r0 hI hr hc1 hc2;have GO : GOk PySem.Challenge.rw_nt0023_01.row.prog w s₁.heap ge (KT w) := top_ok KX KC T.g T.b T.builtins T.nolimit (T.seer (by kernel_rfl))
 have hns : ns.length ≤ 63 := by exact ln1 90116052801 173506722142401 [_] [] (Int.not_lt.1 hc1)
 refine el11 (hlaw ns hns) fun H' hH => ?_
 have e1 : ofPy (PyData.list (ns.map PyData.int)) = WData.list (ns.map WData.int) := by
  have : ∀ l : List Int, ofPys (l.map PyData.int) = l.map WData.int := by
   intro l
   induction l with
   | nil => rfl
   | cons x l ih => show WData.int x :: ofPys (l.map PyData.int) = _; rw [ih]; rfl
  show WData.list (ofPys _) = _
  rw [this]
 rw [e1] at w1
 cases w1 with
 | list g1 g2 =>
  refine law_good GO hg g1 (well_ints g2) hH fun s' k1 k2 k3 => ?_;refine GoodW.toG ⟨.inl ⟨.bool true, .bool true, [], rfl, fun _ => rfl, .bool true, ?_, fun _ => ⟨List.nodup_nil, fun _ h => nomatch h⟩⟩, k1, k2, k3⟩
  kernel_rfl
end Mine
end

-- WA
section
namespace Mine
noncomputable def Rx (r : Option (D × AH)) (Q : D → AH → Prop) : Prop := ∃ d H, r = some (d, H) ∧ Q d H
noncomputable def Rt (r : Option (Bool × AH)) (Q : Bool → AH → Prop) : Prop := ∃ b H, r = some (b, H) ∧ Q b H
noncomputable def Rl (r : Option (List D × AH)) (Q : List D → AH → Prop) : Prop := ∃ ds H, r = some (ds, H) ∧ Q ds H
noncomputable def Rp (r : Option (List (Str × D) × AH)) (Q : List (Str × D) → AH → Prop) : Prop := ∃ ds H, r = some (ds, H) ∧ Q ds H
noncomputable def Rs (r : Option (Flw × Loc × AH)) (Q : Flw → Loc → AH → Prop) : Prop := ∃ f l H, r = some (f, l, H) ∧ Q f l H
noncomputable def Rc (r : Option (Option D × Loc × AH)) (Q : Option D → Loc → AH → Prop) : Prop := ∃ f l H, r = some (f, l, H) ∧ Q f l H
section
variable {n : Nat} {nm : Nms} {loc loc' : Loc} {H : AH} {Q : D → AH → Prop} {QT : Bool → AH → Prop} {QS : Flw → Loc → AH → Prop} {QL : List D → AH → Prop} {p : Ev}
theorem Rx.mono {r : Option (D × AH)} {Q Q' : D → AH → Prop} (h : Rx r Q) (k : ∀ d H, Q d H → Q' d H) : Rx r Q' := let ⟨d, H, a, b⟩ := h; ⟨d, H, a, k _ _ b⟩
theorem Rt.mono {r : Option (Bool × AH)} {Q Q' : Bool → AH → Prop} (h : Rt r Q) (k : ∀ d H, Q d H → Q' d H) : Rt r Q' := let ⟨d, H, a, b⟩ := h; ⟨d, H, a, k _ _ b⟩
theorem Rs.mono {r : Option (Flw × Loc × AH)} {Q Q' : Flw → Loc → AH → Prop} (h : Rs r Q) (k : ∀ d l H, Q d l H → Q' d l H) : Rs r Q' := let ⟨d, l, H, a, b⟩ := h; ⟨d, l, H, a, k _ _ _ b⟩
theorem Rx.here {d : D} (q : Q d H) : Rx (some (d, H)) Q := ⟨d, H, rfl, q⟩
theorem Rt.here {b : Bool} (q : QT b H) : Rt (some (b, H)) QT := ⟨b, H, rfl, q⟩
theorem ev_ex (e : Expr) : (ev ge (n + 1)).ex nm loc e H = exD ge (ev ge n) nm loc e H := rfl
theorem x_name {x : Str} {pos : Pos} {d : D} (h : nameVal ge nm loc x = some d) (q : Q d H) : Rx ((ev ge (n + 1)).ex nm loc (.Name x pos) H) Q := ⟨d, H, by show (nameVal ge nm loc x).map _ = _; rw [h]; rfl, q⟩
theorem x_int {i : Int} {k : Nat} {pos : Pos} (q : Q (.int i) H) : Rx ((ev ge (n + 1)).ex nm loc (.Constant (.int i) k pos) H) Q := ⟨_, H, rfl, q⟩
theorem x_bool {i : Bool} {k : Nat} {pos : Pos} (q : Q (.bool i) H) : Rx ((ev ge (n + 1)).ex nm loc (.Constant (.bool i) k pos) H) Q := ⟨_, H, rfl, q⟩
theorem x_none {k : Nat} {pos : Pos} (q : Q .none H) : Rx ((ev ge (n + 1)).ex nm loc (.Constant .none k pos) H) Q := ⟨_, H, rfl, q⟩
theorem x_str {i : Str} {k : Nat} {pos : Pos} (h : PyData.strOk i = true) (q : Q (.str i) H) : Rx ((ev ge (n + 1)).ex nm loc (.Constant (.str i) k pos) H) Q := ⟨_, H, by show (if _ then _ else _) = _; rw [if_pos h], q⟩
theorem x_binop {l r : Expr} {op : Operator} {pos : Pos} (h : Rx ((ev ge n).ex nm loc l H) fun a H1 => Rx ((ev ge n).ex nm loc r H1) fun b H2 => Rx (binop H2 op a b) Q) : Rx ((ev ge (n + 1)).ex nm loc (.BinOp l op r pos) H) Q := by
 refine el22 h fun a H1 e1 zq1 => ?_;clear h;refine el22 zq1 fun b H2 e2 zq2 => ?_;clear zq1;refine el22 zq2 fun d H3 e3 q => ?_;clear zq2;refine in22 d H3 ?_ q
 show (match (ev ge n).ex nm loc l H with | some (a, H1) => (match (ev ge n).ex nm loc r H1 with | some (b, H2) => binop H2 op a b | none => none) | none => none) = _
 rw [e1]; dsimp only; rw [e2]; exact e3
theorem x_unop {x : Expr} {op : UnaryOp} {pos : Pos} (h : Rx ((ev ge n).ex nm loc x H) fun a H1 => ∃ d, unop op a = some d ∧ Q d H1) : Rx ((ev ge (n + 1)).ex nm loc (.UnaryOp op x pos) H) Q := by
 refine el22 h fun a H1 e1 zq1 => ?_;clear h;refine el12 zq1 fun d e2 q => ?_;clear zq1;refine in22 d H1 ?_ q
 show (match (ev ge n).ex nm loc x H with | some (a, H1) => (unop op a).map fun d => (d, H1) | none => none) = _
 rw [e1]; dsimp only; rw [e2]; rfl
theorem x_cmp {l r : Expr} {op : CmpOp} {pos : Pos} (hm : behindInMarks op r = false) (h : Rx ((ev ge n).ex nm loc l H) fun a H1 => Rx ((ev ge n).ex nm loc r H1) fun b H2 => ∃ t, cmp H2 op a b = some t ∧ Q (.bool t) H2) :
  Rx ((ev ge (n + 1)).ex nm loc (.Compare l [op] [r] pos) H) Q := by
 refine el22 h fun a H1 e1 zq1 => ?_;clear h;refine el22 zq1 fun b H2 e2 zq2 => ?_;clear zq1;refine el12 zq2 fun t e3 q => ?_;clear zq2;refine in22 _ H2 ?_ q
 show (if behindInMarks op r then none else match (ev ge n).ex nm loc l H with | some (a, H1) => (match (ev ge n).ex nm loc r H1 with | some (b, H2) => (cmp H2 op a b).map fun t => (D.bool t, H2) | none => none) | none => none) = _
 rw [hm, if_neg (by decide), e1]; dsimp only; rw [e2]; dsimp only; rw [e3]; rfl
theorem x_and {e r : Expr} {pos : Pos} (h : Rx ((ev ge n).ex nm loc e H) fun d H1 => ∃ b, truth d = some b ∧ if b = true then Rx ((ev ge n).ex nm loc r H1) Q else Q d H1) : Rx ((ev ge (n + 1)).ex nm loc (.BoolOp .And [e, r] pos) H) Q := by
 refine el22 h fun d H1 e1 zq1 => ?_;clear h;refine el12 zq1 fun b e2 q => ?_;clear zq1
 cases b with
 | false => exact ⟨d, H1, by show boolV _ _ _ _ = _; unfold boolV; rw [e1]; dsimp only; rw [e2], by simpa using q⟩
 | true =>
  simp only [if_true] at q;revert q;intro zh1;refine el22 zh1 fun d2 H2 e3 q => ?_;clear zh1;exact in22 d2 H2 (by show boolV _ _ _ _ = _; unfold boolV; rw [e1]; dsimp only; rw [e2]; exact e3) q
theorem x_ifexp {t b o : Expr} {pos : Pos} (h : Rt ((ev ge n).tr nm loc t H) fun c H1 => if c = true then Rx ((ev ge n).ex nm loc b H1) Q else Rx ((ev ge n).ex nm loc o H1) Q) : Rx ((ev ge (n + 1)).ex nm loc (.IfExp t b o pos) H) Q := by
 refine el22 h fun c H1 e1 q => ?_;clear h
 cases c with
 | true =>
  simp only [if_true] at q;revert q;intro zh1;refine el22 zh1 fun d H2 e2 q => ?_;clear zh1;refine in22 d H2 ?_ q
  show (match (ev ge n).tr nm loc t H with | some (true, H1) => (ev ge n).ex nm loc b H1 | some (false, H1) => (ev ge n).ex nm loc o H1 | none => none) = _
  rw [e1]; exact e2
 | false =>
  simp only [Bool.false_eq_true, if_false] at q;revert q;intro zh1;refine el22 zh1 fun d H2 e2 q => ?_;clear zh1;refine in22 d H2 ?_ q
  show (match (ev ge n).tr nm loc t H with | some (true, H1) => (ev ge n).ex nm loc b H1 | some (false, H1) => (ev ge n).ex nm loc o H1 | none => none) = _
  rw [e1]; exact e2
theorem l_nil {f : Expr → AH → Option (D × AH)} (q : QL [] H) : Rl (evs f [] H) QL := ⟨[], H, rfl, q⟩
theorem l_cons {f : Expr → AH → Option (D × AH)} {e : Expr} {es : List Expr} (h : Rx (f e H) fun d H1 => Rl (evs f es H1) fun ds H2 => QL (d :: ds) H2) : Rl (evs f (e :: es) H) QL := by
 refine el22 h fun d H1 e1 zq1 => ?_;clear h;refine el22 zq1 fun ds H2 e2 q => ?_;clear zq1;refine in22 (d :: ds) H2 ?_ q;unfold evs; rw [e1]; dsimp only; rw [e2]
theorem x_tuple {es : List Expr} {k : Nat} {pos : Pos} (hc : (es.all notStar && decide (es.length ≤ maxLen)) = true) (h : Rl (evs ((ev ge n).ex nm loc) es H) fun ds H1 => Q (.tup ds) H1) : Rx ((ev ge (n + 1)).ex nm loc (.Tuple es k pos) H) Q := by
 refine el22 h fun ds H1 e1 q => ?_;clear h;refine in22 _ H1 ?_ q
 show (if _ then _ else _) = _
 rw [if_pos hc, e1]
theorem x_list {es : List Expr} {pos : Pos} (hc : (es.all notStar && decide (es.length ≤ maxLen)) = true) (h : Rl (evs ((ev ge n).ex nm loc) es H) fun ds H1 => ds.length ≤ maxLen ∧ Q (.ref H1.length) (H1 ++ [.list ds])) : Rx ((ev ge (n + 1)).ex nm loc (.List es pos) H) Q := by
 refine el23 h fun ds H1 e1 hl q => ?_;clear h;refine in22 _ _ ?_ q
 show (if _ then _ else _) = _
 rw [if_pos hc, e1];dsimp only;unfold newL alloc;rw [if_pos hl]
theorem p_nil {f : Expr → AH → Option (D × AH)} {QP : List (Str × D) → AH → Prop} (q : QP [] H) : Rp (evP f [] H) QP := ⟨[], H, rfl, q⟩
theorem p_cons {f : Expr → AH → Option (D × AH)} {QP : List (Str × D) → AH → Prop} {k e : Expr} {es : List (Option Expr × Expr)} (h : Rx (f k H) fun d0 H0 => ∃ x, d0 = .str x ∧ Rx (f e H0) fun d H1 => Rp (evP f es H1) fun ds H2 => QP ((x, d) :: ds) H2) : Rp (evP f ((some k, e) :: es) H) QP := by
 refine el22 h fun O H0 e0 zq1 => ?_;clear h;refine el12 zq1 fun x zr2 zq3 => ?_;clear zq1;subst zr2;refine el22 zq3 fun d H1 e1 zq4 => ?_;clear zq3;refine el22 zq4 fun ds H2 e2 q => ?_;clear zq4;refine in22 _ H2 ?_ q;unfold evP; dsimp only; rw [e0]; dsimp only; rw [e1]; dsimp only; rw [e2]
theorem x_dict {ks : List (Option Expr)} {vs : List Expr} {pos : Pos} (hc : (decide (ks.length = vs.length) && decide (ks.length ≤ 15)) = true) (h : Rp (evP ((ev ge n).ex nm loc) (ks.zip vs) H) fun es H1 => Q (.ref H1.length) (H1 ++ [.dict (es.foldl (fun r e => putE r e.1 e.2) [])])) :
  Rx ((ev ge (n + 1)).ex nm loc (.Dict ks vs pos) H) Q := by
 refine el22 h fun es H1 e1 q => ?_;clear h;refine in22 _ _ ?_ q
 show (if _ then _ else _) = _
 rw [if_pos hc, e1]
 rfl
theorem x_call {x : Str} {q pos : Pos} {args : List Expr} {d : D} (hs : args.all notStar = true) (h : nameVal ge nm loc x = some d) (hc : callable ge d = true) (k : Rl (evs ((ev ge (n + 1)).ex nm loc) args H) fun ds H1 => Rx ((ev ge (n + 1)).cl d ds H1) Q) :
  Rx ((ev ge (n + 2)).ex nm loc (.Call (.Name x q) args [] pos) H) Q := by
 refine el22 k fun ds H1 e1 zq1 => ?_;clear k;refine el22 zq1 fun d2 H2 e2 k => ?_;clear zq1;refine in22 d2 H2 ?_ k
 show (if !args.all notStar then none else match (ev ge (n + 1)).ex nm loc (.Name x q) H with
  | some (d, H1) => if callable ge d then match evs ((ev ge (n + 1)).ex nm loc) args H1 with
    | some (ds, H2) => (ev ge (n + 1)).cl d ds H2
    | none => none
   else none
  | none => none) = _
 have e0 : (ev ge (n + 1)).ex nm loc (.Name x q) H = some (d, H) := by show (nameVal ge nm loc x).map _ = _; rw [h]; rfl
 rw [hs, e0];simp only [Bool.not_true, Bool.false_eq_true, if_false, hc, if_true, e1];exact e2
theorem x_meth {o : Expr} {name : Str} {apos pos : Pos} {args : List Expr} (hs : (isSuper o || !args.all notStar || decide (args.length > 20) || !(apos.endLine == pos.line)) = false)
  (k : Rx ((ev ge n).ex nm loc o H) fun d H1 => ∃ i, d = .ref i ∧ ((∃ ob, H1[i]? = some ob ∧ (∀ C j, ob ≠ .inst C j) ∧ descOk ob name = true ∧ Rl (evs ((ev ge n).ex nm loc) args H1) fun ds H2 => Rx (mcall H2 i name ds) Q) ∨
   (∃ C j f, H1[i]? = some (.inst C j) ∧ methOf ge H1 i name = some f ∧ Rl (evs ((ev ge n).ex nm loc) args H1) fun ds H2 => Rx ((ev ge n).cl (.fn f) (.ref i :: ds) H2) Q))) :
  Rx ((ev ge (n + 1)).ex nm loc (.Call (.Attribute o name apos) args [] pos) H) Q := by
 refine el22 k fun O H1 e1 zq1 => ?_;clear k;refine el12 zq1 fun i zr2 h => ?_;clear zq1;subst zr2;rcases h with ⟨ob, ho, hn, hd, ds, H2, e2, d, H3, e3, q⟩ | ⟨C, j, f, ho, hm, ds, H2, e2, d, H3, e3, q⟩
 ·refine in22 d H3 ?_ q;rw [ev_ex];unfold exD;dsimp only;rw [hs, if_neg (by decide), e1];dsimp only;rw [ho]
  cases ob with
  | inst C j => exact absurd rfl (hn C j)
  | list ys => dsimp only; rw [if_pos hd, e2]; exact e3
  | dict ys => dsimp only; rw [if_pos hd, e2]; exact e3
 ·refine in22 d H3 ?_ q;rw [ev_ex];unfold exD;dsimp only;rw [hs, if_neg (by decide), e1];dsimp only;rw [ho];dsimp only;rw [hm];dsimp only;rw [e2]; exact e3
theorem x_attr {v : Expr} {a : Str} {pos : Pos} (hs : isSuper v = false) (k : Rx ((ev ge n).ex nm loc v H) fun d H1 => ∃ r, attrOf ge H1 d a = some r ∧ Q r H1) : Rx ((ev ge (n + 1)).ex nm loc (.Attribute v a pos) H) Q := by
 refine el22 k fun d H1 e1 zq1 => ?_;clear k;refine el12 zq1 fun r e2 q => ?_;clear zq1;refine in22 r H1 ?_ q
 show (if isSuper v then none else match (ev ge n).ex nm loc v H with | some (d, H1) => (attrOf ge H1 d a).map fun r => (r, H1) | none => none) = _
 rw [hs, if_neg (by decide), e1]; dsimp only; rw [e2]; rfl
theorem x_sub {v i : Expr} {pos : Pos} (hs : isSlice i = false) (k : Rx ((ev ge n).ex nm loc v H) fun d H1 => Rx ((ev ge n).ex nm loc i H1) fun k H2 => ∃ r, getIt H2 d k = some r ∧ Q r H2) : Rx ((ev ge (n + 1)).ex nm loc (.Subscript v i pos) H) Q := by
 refine el22 k fun d H1 e1 zq1 => ?_;clear k;refine el22 zq1 fun k H2 e2 zq2 => ?_;clear zq1;refine el12 zq2 fun r e3 q => ?_;clear zq2;refine in22 r H2 ?_ q;rw [ev_ex]
 have : exD ge (ev ge n) nm loc (.Subscript v i pos) H = (match (ev ge n).ex nm loc v H with
  | some (d, H1) => match (ev ge n).ex nm loc i H1 with
   | some (k, H2) => (getIt H2 d k).map fun r => (r, H2)
   | none => none
  | none => none) := by cases i <;> first | rfl | cases hs
 rw [this, e1]; dsimp only; rw [e2]; dsimp only; rw [e3]; rfl
theorem o_none {f : Expr → AH → Option (D × AH)} (q : Q .none H) : Rx (optE f none H) Q := ⟨_, H, rfl, q⟩
theorem o_some {f : Expr → AH → Option (D × AH)} {e : Expr} (q : Rx (f e H) Q) : Rx (optE f (some e) H) Q := q
theorem x_slice {v : Expr} {lo hi st : Option Expr} {q0 pos : Pos} (k : Rx ((ev ge n).ex nm loc v H) fun d H1 => Rx (optE ((ev ge n).ex nm loc) lo H1) fun a H2 => Rx (optE ((ev ge n).ex nm loc) hi H2) fun b H3 => Rx (optE ((ev ge n).ex nm loc) st H3) fun c H4 => Rx (sliceIt H4 d a b c) Q) :
  Rx ((ev ge (n + 1)).ex nm loc (.Subscript v (.Slice lo hi st q0) pos) H) Q := by
 refine el22 k fun d H1 e1 zq1 => ?_;clear k;refine el22 zq1 fun a H2 e2 zq2 => ?_;clear zq1;refine el22 zq2 fun b H3 e3 zq3 => ?_;clear zq2;refine el22 zq3 fun c H4 e4 zq4 => ?_;clear zq3;refine el22 zq4 fun r H5 e5 q => ?_;clear zq4;refine in22 r H5 ?_ q;rw [ev_ex];unfold exD;dsimp only;rw [e1]; dsimp only; rw [e2]; dsimp only; rw [e3]; dsimp only; rw [e4]; exact e5
noncomputable abbrev cLoc0 (sc : Scope) (loc : Loc) : Loc := (sc.names.filter fun x => isOwn (some x.2)).map (fun x => (x.1, (none : Option D))) ++ loc
theorem x_comp {elt t iter : Expr} {ifs : List Expr} {sc : Scope} {pos : Pos} (hs : scopeOk nm sc = true) (hn : notSet iter = true)
  (k : Rx ((ev ge n).ex nm loc iter H) fun d H1 => ∃ ds o, src H1 d = some (ds, o) ∧ ds.length ≤ maxLen ∧ Rl (cloop (still o ds) (cstep (ev ge n) sc.names elt t ifs) ds (cLoc0 sc loc) H1) fun rs H2 => rs.length ≤ maxLen ∧ Q (.ref H2.length) (H2 ++ [.list rs])) :
  Rx ((ev ge (n + 1)).ex nm loc (.ListComp elt [⟨t, iter, ifs, 0⟩] sc pos) H) Q := by
 refine el22 k fun d H1 e1 zq1 => ?_;clear k;refine el23 zq1 fun ds o e2 hl zq2 => ?_;clear zq1;refine el23 zq2 fun rs H2 e3 hr q => ?_;clear zq2;refine in22 _ _ ?_ q
 show (if !decide ((0 : Int) = 0) then none else if !scopeOk nm sc || !notSet iter then none else match (ev ge n).ex nm loc iter H with
  | some (d, H1) => match src H1 d with
   | some (ds, o) => if decide (ds.length ≤ maxLen) then
     match cloop (still o ds) (cstep (ev ge n) sc.names elt t ifs) ds (cLoc0 sc loc) H1 with
     | some (rs, H2) => newL H2 rs
     | none => none
    else none
   | none => none
  | none => none) = _
 rw [if_neg (by decide), hs, hn, if_neg (by decide), e1];dsimp only;rw [e2];dsimp only;rw [if_pos (by simpa using hl), e3];dsimp only;unfold newL alloc;rw [if_pos hr]
end
end Mine
end

-- WB
section
namespace Mine
section
variable {n : Nat} {nm : Nms} {loc loc' : Loc} {H : AH} {Q : D → AH → Prop} {QT : Bool → AH → Prop} {QS : Flw → Loc → AH → Prop} {QL : List D → AH → Prop} {QC : Option D → Loc → AH → Prop} {p : Ev}
theorem ev_tr (e : Expr) : (ev ge (n + 1)).tr nm loc e H = trD ge (ev ge n) nm loc e H := rfl
theorem ev_st (s : Stmt) : (ev ge (n + 1)).st nm s loc H = stD ge (ev ge n) nm s loc H := rfl
theorem t_not {x : Expr} {pos : Pos} (h : Rt ((ev ge n).tr nm loc x H) fun b H1 => QT (!b) H1) : Rt ((ev ge (n + 1)).tr nm loc (.UnaryOp .Not x pos) H) QT := by
 refine el22 h fun b H1 e q => ?_;clear h;exact in22 (!b) H1 (by rw [ev_tr]; unfold trD; dsimp only; rw [e]; rfl) q
theorem t_bool {op : BoolOp} {es : List Expr} {pos : Pos} (h : Rt (allT ((ev ge n).tr nm loc) op es H) QT) : Rt ((ev ge (n + 1)).tr nm loc (.BoolOp op es pos) H) QT := h
theorem a_nil_and {f : Expr → AH → Option (Bool × AH)} (q : QT true H) : Rt (allT f .And [] H) QT := ⟨_, H, rfl, q⟩
theorem a_nil_or {f : Expr → AH → Option (Bool × AH)} (q : QT false H) : Rt (allT f .Or [] H) QT := ⟨_, H, rfl, q⟩
theorem a_and {f : Expr → AH → Option (Bool × AH)} {e : Expr} {r : List Expr} (h : Rt (f e H) fun b H1 => if b = true then Rt (allT f .And r H1) QT else QT false H1) : Rt (allT f .And (e :: r) H) QT := by
 refine el22 h fun b H1 e1 q => ?_;clear h
 cases b with
 | false => exact ⟨false, H1, by unfold allT; rw [e1], by simpa using q⟩
 | true =>
  simp only [if_true] at q;revert q;intro zh1;refine el22 zh1 fun c H2 e2 q => ?_;clear zh1;exact in22 c H2 (by unfold allT; rw [e1]; exact e2) q
theorem a_or {f : Expr → AH → Option (Bool × AH)} {e : Expr} {r : List Expr} (h : Rt (f e H) fun b H1 => if b = true then QT true H1 else Rt (allT f .Or r H1) QT) : Rt (allT f .Or (e :: r) H) QT := by
 refine el22 h fun b H1 e1 q => ?_;clear h
 cases b with
 | true => exact ⟨true, H1, by unfold allT; rw [e1], by simpa using q⟩
 | false =>
  simp only [Bool.false_eq_true, if_false] at q;revert q;intro zh1;refine el22 zh1 fun c H2 e2 q => ?_;clear zh1;exact in22 c H2 (by unfold allT; rw [e1]; exact e2) q
theorem t_cmp {l r : Expr} {op : CmpOp} {pos : Pos} (hm : behindInMarks op r = false) (h : Rx ((ev ge n).ex nm loc l H) fun a H1 => Rx ((ev ge n).ex nm loc r H1) fun b H2 => ∃ t, cmp H2 op a b = some t ∧ QT t H2) :
  Rt ((ev ge (n + 1)).tr nm loc (.Compare l [op] [r] pos) H) QT := by
 refine el22 h fun a H1 e1 zq1 => ?_;clear h;refine el22 zq1 fun b H2 e2 zq2 => ?_;clear zq1;refine el12 zq2 fun t e3 q => ?_;clear zq2;refine in22 _ H2 ?_ q;rw [ev_tr]; unfold trD; dsimp only;rw [hm, if_neg (by decide), e1]; dsimp only; rw [e2]; dsimp only; rw [e3]; rfl
theorem t_val {e : Expr} (he : trD ge (ev ge n) nm loc e H = (match (ev ge n).ex nm loc e H with | some (d, H1) => (truth d).map fun b => (b, H1) | none => none)) (h : Rx ((ev ge n).ex nm loc e H) fun d H1 => ∃ b, truth d = some b ∧ QT b H1) :
  Rt ((ev ge (n + 1)).tr nm loc e H) QT := by
 refine el22 h fun d H1 e1 zq1 => ?_;clear h;refine el12 zq1 fun b e2 q => ?_;clear zq1;refine in22 b H1 ?_ q;rw [ev_tr, he, e1]; dsimp only; rw [e2]; rfl
set_option tactic.hygienic true in
theorem s_nil {f : Stmt → Loc → AH → Option (Flw × Loc × AH)} (q : QS .next loc H) : Rs (stsL f [] loc H) QS := ⟨_, loc, H, rfl, q⟩
theorem s_cons {f : Stmt → Loc → AH → Option (Flw × Loc × AH)} {s : Stmt} {r : List Stmt} (h : Rs (f s loc H) fun fl l1 H1 => match fl with | .next => Rs (stsL f r l1 H1) QS | .ret d => QS (.ret d) l1 H1) : Rs (stsL f (s :: r) loc H) QS := by
 refine el32 h fun fl l1 H1 e1 q => ?_;clear h
 cases fl with
 | next =>
  revert q;intro zh1;refine el32 zh1 fun fl l2 H2 e2 q => ?_;clear zh1;exact in32 fl l2 H2 (by unfold stsL; rw [e1]; exact e2) q
 | ret d => exact ⟨.ret d, l1, H1, by unfold stsL; rw [e1], q⟩
theorem s_loc {f : Stmt → Loc → AH → Option (Flw × Loc × AH)} {ss : List Stmt} (h : loc = loc') (q : Rs (stsL f ss loc' H) QS) : Rs (stsL f ss loc H) QS := h ▸ q
set_option tactic.hygienic true in
theorem s_expr {f : Expr} {as : List Expr} {ks : List Keyword} {q pos : Pos} (h : Rx ((ev ge n).ex nm loc (.Call f as ks q) H) fun _ H1 => QS .next loc H1) : Rs ((ev ge (n + 1)).st nm (.Expr (.Call f as ks q) pos) loc H) QS := by
 refine el22 h fun d H1 e q => ?_;clear h;exact in32 _ loc H1 (by rw [ev_st]; unfold stD; dsimp only; rw [e]; rfl) q
theorem s_ret {e : Expr} {pos : Pos} (h : Rx ((ev ge n).ex nm loc e H) fun d H1 => QS (.ret d) loc H1) : Rs ((ev ge (n + 1)).st nm (.Return (some e) pos) loc H) QS := by
 refine el22 h fun d H1 e q => ?_;clear h;exact in32 _ loc H1 (by rw [ev_st]; unfold stD; dsimp only; rw [e]; rfl) q
theorem s_if {t : Expr} {b o : List Stmt} {pos : Pos} (h : Rt ((ev ge n).tr nm loc t H) fun c H1 => if c = true then Rs (stsL ((ev ge n).st nm) b loc H1) QS else Rs (stsL ((ev ge n).st nm) o loc H1) QS) : Rs ((ev ge (n + 1)).st nm (.If t b o pos) loc H) QS := by
 refine el22 h fun c H1 e1 q => ?_;clear h
 cases c with
 | true =>
  simp only [if_true] at q;revert q;intro zh1;refine el32 zh1 fun fl l2 H2 e2 q => ?_;clear zh1;exact in32 fl l2 H2 (by rw [ev_st]; unfold stD; dsimp only; rw [e1]; exact e2) q
 | false =>
  simp only [Bool.false_eq_true, if_false] at q;revert q;intro zh1;refine el32 zh1 fun fl l2 H2 e2 q => ?_;clear zh1;exact in32 fl l2 H2 (by rw [ev_st]; unfold stD; dsimp only; rw [e1]; exact e2) q
theorem s_asg {x : Str} {q0 pos : Pos} {v : Expr} (hok : swapOk (.Name x q0) v = true) (hc : isComp v = false) (hx : isOwn (nm.lookup x) = true) (h : Rx ((ev ge n).ex nm loc v H) fun d H1 => QS .next (put loc x d) H1) :
  Rs ((ev ge (n + 1)).st nm (.Assign [.Name x q0] v pos) loc H) QS := by
 refine el22 h fun d H1 e1 q => ?_;clear h;refine in32 _ _ H1 ?_ q;rw [ev_st]; unfold stD; dsimp only;rw [hok, if_neg (by decide), hc, if_neg (by decide), e1]; dsimp only; rw [if_pos hx]
theorem s_asgc {x : Str} {q0 pos : Pos} {v : Expr} (hok : swapOk (.Name x q0) v = true) (hc : isComp v = true) (hx : isOwn (nm.lookup x) = true) (h : Rx ((ev ge (n + 1)).ex nm loc v H) fun d H1 => QS .next (put loc x d) H1) :
  Rs ((ev ge (n + 1)).st nm (.Assign [.Name x q0] v pos) loc H) QS := by
 refine el22 h fun d H1 e1 q => ?_;clear h;refine in32 _ _ H1 ?_ q;rw [ev_st]; unfold stD; dsimp only;have e1' : exD ge (ev ge n) nm loc v H = some (d, H1) := e1;rw [hok, if_neg (by decide), hc, if_pos rfl, e1']; dsimp only; rw [if_pos hx]
set_option tactic.hygienic true in
theorem s_asgt {ts : List Expr} {k : Nat} {q0 pos : Pos} {v : Expr} (hok : swapOk (.Tuple ts k q0) v = true) (hc : isComp v = false) (h : Rx ((ev ge n).ex nm loc v H) fun d H1 => ∃ l1, bindT nm (.Tuple ts k q0) d loc = some l1 ∧ QS .next l1 H1) :
  Rs ((ev ge (n + 1)).st nm (.Assign [.Tuple ts k q0] v pos) loc H) QS := by
 refine el22 h fun d H1 e1 zq1 => ?_;clear h;refine el12 zq1 fun l1 e2 q => ?_;clear zq1;refine in32 _ _ H1 ?_ q;rw [ev_st]; unfold stD; dsimp only;rw [hok, if_neg (by decide), hc, if_neg (by decide), e1]; dsimp only; rw [e2]; rfl
set_option tactic.hygienic true in
theorem s_asga {o : Expr} {a : Str} {q0 pos : Pos} {v : Expr} (hok : swapOk (.Attribute o a q0) v = true) (hc : isComp v = false) (ha : PyData.strOk a = true) (h : Rx ((ev ge n).ex nm loc v H) fun d H1 => Rx ((ev ge n).ex nm loc o H1) fun b H2 => ∃ H3, setAttr ge H2 b a d = some H3 ∧ QS .next loc H3) :
  Rs ((ev ge (n + 1)).st nm (.Assign [.Attribute o a q0] v pos) loc H) QS := by
 refine el22 h fun d H1 e1 zq1 => ?_;clear h;refine el22 zq1 fun b H2 e2 zq2 => ?_;clear zq1;refine el12 zq2 fun H3 e3 q => ?_;clear zq2;refine in32 _ _ H3 ?_ q;rw [ev_st]; unfold stD; dsimp only;rw [hok, if_neg (by decide), hc, if_neg (by decide), e1]; dsimp only; rw [ha, if_neg (by decide), e2]; dsimp only; rw [e3]; rfl
set_option tactic.hygienic true in
theorem s_asgs {o i : Expr} {q0 pos : Pos} {v : Expr} (hok : swapOk (.Subscript o i q0) v = true) (hc : isComp v = false) (hi : isSlice i = false)
  (h : Rx ((ev ge n).ex nm loc v H) fun d H1 => Rx ((ev ge n).ex nm loc o H1) fun b H2 => Rx ((ev ge n).ex nm loc i H2) fun k H3 => ∃ H4, setIt H3 b k d = some H4 ∧ QS .next loc H4) :
  Rs ((ev ge (n + 1)).st nm (.Assign [.Subscript o i q0] v pos) loc H) QS := by
 refine el22 h fun d H1 e1 zq1 => ?_;clear h;refine el22 zq1 fun b H2 e2 zq2 => ?_;clear zq1;refine el22 zq2 fun k H3 e3 zq3 => ?_;clear zq2;refine el12 zq3 fun H4 e4 q => ?_;clear zq3;refine in32 _ _ H4 ?_ q;rw [ev_st]; unfold stD; dsimp only;rw [hok, if_neg (by decide), hc, if_neg (by decide), e1]; dsimp only; rw [hi, if_neg (by decide), e2]; dsimp only; rw [e3]; dsimp only; rw [e4]; rfl
theorem s_whl {t : Expr} {b : List Stmt} {pos : Pos} (h : Rs (wloop (fun loc H => (ev ge n).tr nm loc t H) (fun loc H => stsL ((ev ge n).st nm) b loc H) 100 loc H) QS) : Rs ((ev ge (n + 1)).st nm (.While t b [] pos) loc H) QS := h
theorem s_forx {t it : Expr} {b : List Stmt} {pos : Pos} (he : enumArg ge nm loc it = none) (hn : notSet it = true) (h : Rx ((ev ge n).ex nm loc it H) fun d H1 => ∃ ds o, src H1 d = some (ds, o) ∧ ds.length ≤ maxLen ∧ Rs (loop (still o ds) (lstep (ev ge n) nm t b) ds loc H1) QS) :
  Rs ((ev ge (n + 1)).st nm (.For t it b [] pos) loc H) QS := by
 refine el22 h fun d H1 e1 zq1 => ?_;clear h;refine el23 zq1 fun ds o e2 hl zq2 => ?_;clear zq1;refine el32 zq2 fun fl l2 H2 e3 q => ?_;clear zq2;refine in32 fl l2 H2 ?_ q;rw [ev_st]; unfold stD; dsimp only;rw [he]; dsimp only;rw [hn, if_neg (by decide), e1]; dsimp only; rw [e2]; dsimp only; rw [if_pos (by simpa using hl)]; exact e3
theorem s_fore {t it x : Expr} {b : List Stmt} {pos : Pos} (he : enumArg ge nm loc it = some x) (hn : (!isTup t || !notStar x) = false) (h : Rx ((ev ge n).ex nm loc x H) fun d H1 => ∃ i ds, d = .ref i ∧ listAt H1 i = some ds ∧ ds.length ≤ maxLen ∧ Rs (loop (still (some i) ds) (lstep (ev ge n) nm t b) (enumOf ds) loc H1) QS) :
  Rs ((ev ge (n + 1)).st nm (.For t it b [] pos) loc H) QS := by
 refine el22 h fun O H1 e1 zq1 => ?_;clear h;refine el24 zq1 fun i ds zr2 e2 hl zq3 => ?_;clear zq1;subst zr2;refine el32 zq3 fun fl l2 H2 e3 q => ?_;clear zq3;refine in32 fl l2 H2 ?_ q;rw [ev_st]; unfold stD; dsimp only;rw [he]; dsimp only;rw [hn, if_neg (by decide), e1]; dsimp only; rw [e2]; dsimp only; rw [if_pos (by simpa using hl)]; exact e3
theorem l_step {t : Expr} {b : List Stmt} {d : D} (h : ∃ l1, bindT nm t d loc = some l1 ∧ Rs (stsL ((ev ge n).st nm) b l1 H) QS) : Rs (lstep (ev ge n) nm t b d loc H) QS := by
 refine el12 h fun l1 e1 zq1 => ?_;clear h;refine el32 zq1 fun fl l2 H2 e2 q => ?_;clear zq1;exact in32 fl l2 H2 (by unfold lstep; rw [e1]; exact e2) q
theorem c_step0 {elt t : Expr} {d : D} (h : ∃ l1, bindT nm t d loc = some l1 ∧ Rx ((ev ge n).ex nm l1 elt H) fun d H1 => QC (some d) l1 H1) : Rc (cstep (ev ge n) nm elt t [] d loc H) QC := by
 refine el12 h fun l1 e1 zq1 => ?_;clear h;refine el22 zq1 fun r H2 e2 q => ?_;clear zq1;exact in32 _ l1 H2 (by unfold cstep; rw [e1]; dsimp only; rw [e2]; rfl) q
theorem c_step1 {elt t c : Expr} {d : D} (h : ∃ l1, bindT nm t d loc = some l1 ∧ Rt ((ev ge n).tr nm l1 c H) fun b H1 => if b = true then Rx ((ev ge n).ex nm l1 elt H1) fun d H1 => QC (some d) l1 H1 else QC none l1 H1) : Rc (cstep (ev ge n) nm elt t [c] d loc H) QC := by
 refine el12 h fun l1 e1 zq1 => ?_;clear h;refine el22 zq1 fun b H1 e2 q => ?_;clear zq1
 cases b with
 | true =>
  simp only [if_true] at q;revert q;intro zh1;refine el22 zh1 fun r H2 e3 q => ?_;clear zh1;exact in32 _ l1 H2 (by unfold cstep; rw [e1]; dsimp only; rw [e2]; dsimp only; rw [e3]; rfl) q
 | false => exact ⟨_, l1, H1, by unfold cstep; rw [e1]; dsimp only; rw [e2], by simpa using q⟩
set_option tactic.hygienic true in
theorem loop_inv {chk : AH → Bool} {step : D → Loc → AH → Option (Flw × Loc × AH)} (I : List D → Loc → AH → Prop) (hs : ∀ d r l H, I (d :: r) l H → Rs (step d l H) fun fl l1 H1 => match fl with | .next => chk H1 = true ∧ I r l1 H1 | .ret v => QS (.ret v) l1 H1)
  (hd : ∀ l H, I [] l H → QS .next l H) : ∀ {ds : List D} {loc : Loc} {H : AH}, I ds loc H → Rs (loop chk step ds loc H) QS
 | [], loc, H, h => ⟨_, loc, H, rfl, hd _ _ h⟩
 | d :: r, loc, H, h => by
  refine el32 (hs d r loc H h) fun fl l1 H1 e1 q => ?_
  cases fl with
  | next =>
   refine el32 (loop_inv I hs hd q.2) fun fl l2 H2 e2 q2 => ?_;exact in32 fl l2 H2 (by unfold loop; rw [e1]; dsimp only; rw [if_pos q.1]; exact e2) q2
  | ret v => exact ⟨_, l1, H1, by unfold loop; rw [e1], q⟩
theorem cloop_inv {chk : AH → Bool} {step : D → Loc → AH → Option (Option D × Loc × AH)} (I : List D → List D → Loc → AH → Prop) (hs : ∀ d r acc l H, I (d :: r) acc l H → Rc (step d l H) fun x l1 H1 => chk H1 = true ∧ I r (match x with | some y => acc ++ [y] | none => acc) l1 H1)
  : ∀ (QL : List D → AH → Prop) {ds acc : List D} {loc : Loc} {H : AH}, (∀ rs l H, I [] (acc ++ rs) l H → QL rs H) → I ds acc loc H → Rl (cloop chk step ds loc H) QL
 | QL, [], acc, loc, H, hd, h => ⟨_, H, rfl, hd [] loc H (by simpa using h)⟩
 | QL, d :: r, acc, loc, H, hd, h => by
  refine el33 (hs d r acc loc H h) fun x l1 H1 e1 c1 q => ?_
  cases x with
  | none =>
   refine el22 (cloop_inv I hs QL hd q) fun rs H2 e2 q2 => ?_;exact in22 rs H2 (by unfold cloop; rw [e1]; dsimp only; rw [if_pos c1, e2]) q2
  | some y =>
   refine el22 (cloop_inv I hs (fun rs H => QL (y :: rs) H) (fun rs l H hI => hd (y :: rs) l H (by simpa using hI)) q) fun rs H2 e2 q2 => ?_;exact in22 _ H2 (by unfold cloop; rw [e1]; dsimp only; rw [if_pos c1, e2]) q2
set_option tactic.hygienic true in
theorem wloop_inv {test : Loc → AH → Option (Bool × AH)} {body : Loc → AH → Option (Flw × Loc × AH)} (I : Nat → Loc → AH → Prop) (hs : ∀ m l H, I m l H → Rt (test l H) fun b H1 => if b = true then Rs (body l H1) (fun fl l1 H2 => match fl with | .next => ∃ m', m' < m ∧ I m' l1 H2 | .ret v => QS (.ret v) l1 H2) else QS .next l H1) :
  ∀ {k m : Nat} {loc : Loc} {H : AH}, m < k → I m loc H → Rs (wloop test body k loc H) QS
 | 0, m, _, _, hk, _ => absurd hk (Nat.not_lt_zero _)
 | k + 1, m, loc, H, hk, h => by
  refine el22 (hs m loc H h) fun b H1 e1 q => ?_
  cases b with
  | false => exact ⟨_, loc, H1, by unfold wloop; rw [e1], by simpa using q⟩
  | true =>
   simp only [if_true] at q;revert q;intro zh1;refine el32 zh1 fun fl l1 H2 e2 q => ?_;clear zh1
   cases fl with
   | next =>
    revert q;intro zh1;refine el12 zh1 fun m' hm q => ?_;clear zh1;refine el32 (wloop_inv I hs (k := k) (m := m') (by exact ln2 1473601 95849857681 1475201 [_,_,_] [] hk hm) q) fun fl l2 H3 e3 q => ?_;exact in32 fl l2 H3 (by unfold wloop; rw [e1]; dsimp only; rw [e2]; exact e3) q
   | ret v => exact ⟨_, l1, H2, by unfold wloop; rw [e1]; dsimp only; rw [e2], q⟩
noncomputable def enter (a : Addr) (args : List D) : Option (Nms × List Stmt × Loc) := match ge.fn a with
 | some f => if decide (args.length ≤ f.params.length) && decide (f.params.length ≤ args.length + f.dfl.length) then
   some (f.names, f.body, (f.names.filter fun x => isOwn (some x.2)).map fun x => (x.1, (f.params.zip (args ++ f.dfl.drop (f.dfl.length - (f.params.length - args.length)))).lookup x.1))
  else none
 | none => none
noncomputable def Flw.val : Flw → D
 | .next => .none
 | .ret d => d
set_option tactic.hygienic true in
theorem c_fn {a : Addr} {args : List D} {names : Nms} {body : List Stmt} (he : enter a args = some (names, body, loc)) (h : Rs (stsL ((ev ge n).st names) body loc H) fun fl _ H1 => Q fl.val H1) : Rx ((ev ge (n + 1)).cl (.fn a) args H) Q := by
 refine el32 h fun fl l1 H1 e1 q => ?_;clear h;refine in22 fl.val H1 ?_ q
 show callD ge (ev ge n) (.fn a) args H = _
 unfold enter at he;unfold callD;dsimp only
 split at he
 ·rename_i f hf
  try rw [hf]
  try dsimp only
  split at he
  ·rename_i hc;cases he;unfold callF;rw [if_pos hc];dsimp only;rw [e1]
   cases fl <;> rfl
  ·cases he
 ·cases he
theorem c_bi {b : Bi} {args : List D} (h : Rx (bcall H b args) Q) : Rx ((ev ge (n + 1)).cl (.bi b) args H) Q := h
theorem c_cls {C : Addr} {c : Cl} {args : List D} (hc : ge.cls C = some c) (h : Rx ((ev ge n).cl (.fn c.init) (.ref (H.length + 1) :: args) (H ++ [.dict [], .inst C H.length])) fun d H1 => d = .none ∧ Q (.ref (H.length + 1)) H1) : Rx ((ev ge (n + 1)).cl (.cls C) args H) Q := by
 refine el23 h fun O H1 e1 zr1 q => ?_;clear h;subst zr1;refine in22 _ H1 ?_ q
 show callD ge (ev ge n) (.cls C) args H = _
 unfold callD;dsimp only;rw [hc];dsimp only;rw [e1]
end
end Mine
end

-- WC
section
namespace Mine
section
variable {n : Nat} {nm nm' : Nms} {loc loc' : Loc} {H : AH} {Q : D → AH → Prop} {QT : Bool → AH → Prop} {QS : Flw → Loc → AH → Prop} {QL : List D → AH → Prop} {QC : Option D → Loc → AH → Prop} {p : Ev}
theorem x_comp' {elt t iter : Expr} {ifs : List Expr} {sc : Scope} {pos : Pos} (hs : scopeOk nm sc = true) (hn : notSet iter = true) (h1 : sc.names = nm') (h2 : cLoc0 sc loc = loc')
  (k : Rx ((ev ge n).ex nm loc iter H) fun d H1 => ∃ ds o, src H1 d = some (ds, o) ∧ ds.length ≤ maxLen ∧ Rl (cloop (still o ds) (cstep (ev ge n) nm' elt t ifs) ds loc' H1) fun rs H2 => rs.length ≤ maxLen ∧ Q (.ref H2.length) (H2 ++ [.list rs])) :
  Rx ((ev ge (n + 1)).ex nm loc (.ListComp elt [⟨t, iter, ifs, 0⟩] sc pos) H) Q := by
 subst h1 h2;exact x_comp hs hn k
theorem b_add {a b : Int} (q : Q (.int (a + b)) H) : Rx (binop H .Add (.int a) (.int b)) Q := ⟨_, _, rfl, q⟩
theorem b_sub {a b : Int} (q : Q (.int (a - b)) H) : Rx (binop H .Sub (.int a) (.int b)) Q := ⟨_, _, rfl, q⟩
theorem b_mul {a b : Int} (h : (small a || small b) = true) (q : Q (.int (a * b)) H) : Rx (binop H .Mult (.int a) (.int b)) Q := ⟨_, _, by unfold binop; dsimp only [twoI]; rw [if_pos h], q⟩
theorem b_mulr {a b : Int} (h : small b = true) (q : Q (.int (a * b)) H) : Rx (binop H .Mult (.int a) (.int b)) Q := b_mul (by rw [h, Bool.or_true]) q
theorem b_mull {a b : Int} (h : small a = true) (q : Q (.int (a * b)) H) : Rx (binop H .Mult (.int a) (.int b)) Q := b_mul (by rw [h, Bool.true_or]) q
theorem b_mod {a b : Int} (h : b ≠ 0) (q : Q (.int (a.fmod b)) H) : Rx (binop H .Mod (.int a) (.int b)) Q := ⟨_, _, by unfold binop; dsimp only [twoI]; rw [if_pos (by simpa using h)], q⟩
theorem b_div {a b : Int} (h : 0 < b) (h2 : b < 1073741824) (q : Q (.int (a.fdiv b)) H) : Rx (binop H .FloorDiv (.int a) (.int b)) Q := ⟨_, _, by unfold binop; dsimp only [twoI]; rw [if_pos (by simp [h, h2])], q⟩
theorem b_pow {a b : Int} (h : (small a && decide (0 ≤ b) && decide (b ≤ 1000)) = true) (q : Q (.int (a ^ b.toNat)) H) : Rx (binop H .Pow (.int a) (.int b)) Q := ⟨_, _, by unfold binop; dsimp only [twoI]; rw [if_pos h], q⟩
theorem k_lt {a b : Int} {R : Bool → Prop} (q : R (decide (a < b))) : ∃ t, cmp H .Lt (.int a) (.int b) = some t ∧ R t := ⟨_, rfl, q⟩
theorem k_le {a b : Int} {R : Bool → Prop} (q : R (decide (a ≤ b))) : ∃ t, cmp H .LtE (.int a) (.int b) = some t ∧ R t := ⟨_, rfl, q⟩
theorem k_gt {a b : Int} {R : Bool → Prop} (q : R (decide (a > b))) : ∃ t, cmp H .Gt (.int a) (.int b) = some t ∧ R t := ⟨_, rfl, q⟩
theorem k_ge {a b : Int} {R : Bool → Prop} (q : R (decide (a ≥ b))) : ∃ t, cmp H .GtE (.int a) (.int b) = some t ∧ R t := ⟨_, rfl, q⟩
theorem k_is {a : D} {R : Bool → Prop} (q : R (isNone a)) : ∃ t, cmp H .Is a .none = some t ∧ R t := ⟨_, rfl, q⟩
theorem k_isn {a : D} {R : Bool → Prop} (q : R (!isNone a)) : ∃ t, cmp H .IsNot a .none = some t ∧ R t := ⟨_, rfl, q⟩
theorem k_truth {b : Bool} {R : Bool → Prop} (q : R b) : ∃ t, truth (.bool b) = some t ∧ R t := ⟨_, rfl, q⟩
end
theorem ite_yes {a b : Prop} (h : a) : if true = true then a else b := by rw [if_pos rfl]; exact h
theorem ite_no {a b : Prop} (h : b) : if false = true then a else b := by rw [if_neg Bool.false_ne_true]; exact h
section
variable {n : Nat} {nm : Nms} {loc loc' : Loc} {H : AH} {Q : D → AH → Prop} {QT : Bool → AH → Prop} {QS : Flw → Loc → AH → Prop} {QL : List D → AH → Prop} {QC : Option D → Loc → AH → Prop} {QP : List (Str × D) → AH → Prop} {p : Ev}
noncomputable def Keep (H H' : AH) : Prop := ∀ (i : Nat) (o : AO), H[i]? = some o → H'[i]? = some o
noncomputable abbrev New (H : AH) (o : AO) (Q : D → AH → Prop) : Prop := ∀ (a : Nat) (H' : AH), Keep H H' → H'[a]? = some o → H.length ≤ a → Q (.ref a) H'
theorem New.at {o : AO} (q : New H o Q) : Q (.ref H.length) (H ++ [o]) := q _ _ (fun i o' e => by rw [List.getElem?_append_left (List.getElem?_eq_some_iff.mp e).1]; exact e) (by simp) (Nat.le_refl _)
noncomputable def nmOf (a : Addr) : Nms := match ge.fn a with
 | some f => f.names
 | none => []
noncomputable def bodyOf (a : Addr) : List Stmt := match ge.fn a with
 | some f => f.body
 | none => []
noncomputable def frOf (a : Addr) (args : List D) : Option Loc := (enter a args).map (·.2.2)
set_option tactic.hygienic true in
theorem enter_of {a : Addr} {args : List D} (h : frOf a args = some loc) : enter a args = some (nmOf a, bodyOf a, loc) := by
 unfold frOf enter at h;unfold enter nmOf bodyOf
 cases hf : ge.fn a with
 | none => rw [hf] at h; cases h
 | some f =>
  rw [hf] at h;dsimp only at h ⊢
  split at h
  ·rename_i hc;rw [if_pos hc];cases h
   rfl
  ·cases h
noncomputable abbrev kqFn (Q : D → AH → Prop) : Flw → Loc → AH → Prop := fun fl _ H1 => Q fl.val H1
theorem zcF {a : Addr} {args : List D} (loc : Loc) (h : Rs (stsL ((ev ge n).st (nmOf a)) (bodyOf a) loc H) (kqFn Q)) (he : frOf a args = some loc := by kernel_rfl) : Rx ((ev ge (n + 1)).cl (.fn a) args H) Q := c_fn (enter_of he) h
theorem zN {x : Str} {pos : Pos} (d : D) (q : Q d H) (h : nameVal ge nm loc x = some d := by kernel_rfl) : Rx ((ev ge (n + 1)).ex nm loc (.Name x pos) H) Q := x_name h q
theorem zI {i : Int} {k : Nat} {pos : Pos} (q : Q (.int i) H) : Rx ((ev ge (n + 1)).ex nm loc (.Constant (.int i) k pos) H) Q := x_int q
theorem zB {i : Bool} {k : Nat} {pos : Pos} (q : Q (.bool i) H) : Rx ((ev ge (n + 1)).ex nm loc (.Constant (.bool i) k pos) H) Q := x_bool q
theorem zO {k : Nat} {pos : Pos} (q : Q .none H) : Rx ((ev ge (n + 1)).ex nm loc (.Constant .none k pos) H) Q := x_none q
theorem zS {i : Str} {k : Nat} {pos : Pos} (q : Q (.str i) H) (h : PyData.strOk i = true := by kernel_rfl) : Rx ((ev ge (n + 1)).ex nm loc (.Constant (.str i) k pos) H) Q := x_str h q
noncomputable abbrev kqB2 (op : Operator) (a : D) (Q : D → AH → Prop) : D → AH → Prop := fun b H2 => Rx (binop H2 op a b) Q
noncomputable abbrev kqB1 (p : Ev) (nm : Nms) (loc : Loc) (r : Expr) (op : Operator) (Q : D → AH → Prop) : D → AH → Prop := fun a H1 => Rx (p.ex nm loc r H1) (kqB2 op a Q)
theorem zP {l r : Expr} {op : Operator} {pos : Pos} (h : Rx ((ev ge n).ex nm loc l H) (kqB1 (ev ge n) nm loc r op Q)) : Rx ((ev ge (n + 1)).ex nm loc (.BinOp l op r pos) H) Q := x_binop h
noncomputable abbrev kqU (op : UnaryOp) (Q : D → AH → Prop) : D → AH → Prop := fun a H1 => ∃ d, unop op a = some d ∧ Q d H1
theorem zU {x : Expr} {op : UnaryOp} {pos : Pos} (h : Rx ((ev ge n).ex nm loc x H) (kqU op Q)) : Rx ((ev ge (n + 1)).ex nm loc (.UnaryOp op x pos) H) Q := x_unop h
noncomputable abbrev kqC2 (op : CmpOp) (a : D) (Q : D → AH → Prop) : D → AH → Prop := fun b H2 => ∃ t, cmp H2 op a b = some t ∧ Q (.bool t) H2
noncomputable abbrev kqC1 (p : Ev) (nm : Nms) (loc : Loc) (r : Expr) (op : CmpOp) (Q : D → AH → Prop) : D → AH → Prop := fun a H1 => Rx (p.ex nm loc r H1) (kqC2 op a Q)
theorem zC {l r : Expr} {op : CmpOp} {pos : Pos} (h : Rx ((ev ge n).ex nm loc l H) (kqC1 (ev ge n) nm loc r op Q)) (hm : behindInMarks op r = false := by kernel_rfl) : Rx ((ev ge (n + 1)).ex nm loc (.Compare l [op] [r] pos) H) Q := x_cmp hm h
noncomputable abbrev kqA (p : Ev) (nm : Nms) (loc : Loc) (r : Expr) (Q : D → AH → Prop) : D → AH → Prop := fun d H1 => ∃ b, truth d = some b ∧ if b = true then Rx (p.ex nm loc r H1) Q else Q d H1
theorem zA {e r : Expr} {pos : Pos} (h : Rx ((ev ge n).ex nm loc e H) (kqA (ev ge n) nm loc r Q)) : Rx ((ev ge (n + 1)).ex nm loc (.BoolOp .And [e, r] pos) H) Q := x_and h
noncomputable abbrev kqO (p : Ev) (nm : Nms) (loc : Loc) (r : Expr) (Q : D → AH → Prop) : D → AH → Prop := fun d H1 => ∃ b, truth d = some b ∧ if b = true then Q d H1 else Rx (p.ex nm loc r H1) Q
noncomputable abbrev kqF (p : Ev) (nm : Nms) (loc : Loc) (b o : Expr) (Q : D → AH → Prop) : Bool → AH → Prop := fun c H1 => if c = true then Rx (p.ex nm loc b H1) Q else Rx (p.ex nm loc o H1) Q
theorem zF {t b o : Expr} {pos : Pos} (h : Rt ((ev ge n).tr nm loc t H) (kqF (ev ge n) nm loc b o Q)) : Rx ((ev ge (n + 1)).ex nm loc (.IfExp t b o pos) H) Q := x_ifexp h
noncomputable abbrev kqL2 (d : D) (QL : List D → AH → Prop) : List D → AH → Prop := fun ds H2 => QL (d :: ds) H2
noncomputable abbrev kqL1 (f : Expr → AH → Option (D × AH)) (es : List Expr) (QL : List D → AH → Prop) : D → AH → Prop := fun d H1 => Rl (evs f es H1) (kqL2 d QL)
theorem zlC {f : Expr → AH → Option (D × AH)} {e : Expr} {es : List Expr} (h : Rx (f e H) (kqL1 f es QL)) : Rl (evs f (e :: es) H) QL := l_cons h
noncomputable abbrev kqT (Q : D → AH → Prop) : List D → AH → Prop := fun ds H1 => Q (.tup ds) H1
theorem zT {es : List Expr} {k : Nat} {pos : Pos} (h : Rl (evs ((ev ge n).ex nm loc) es H) (kqT Q)) (hc : (es.all notStar && decide (es.length ≤ maxLen)) = true := by kernel_rfl) : Rx ((ev ge (n + 1)).ex nm loc (.Tuple es k pos) H) Q := x_tuple hc h
noncomputable abbrev kqN (Q : D → AH → Prop) : List D → AH → Prop := fun ds H1 => ds.length ≤ maxLen ∧ New H1 (.list ds) Q
theorem kqN.rl {r : Option (List D × AH)} (h : Rl r (kqN Q)) : Rl r fun ds H1 => ds.length ≤ maxLen ∧ Q (.ref H1.length) (H1 ++ [.list ds]) := let ⟨a, b, c, d, e⟩ := h; ⟨a, b, c, d, New.at e⟩
theorem zL {es : List Expr} {pos : Pos} (h : Rl (evs ((ev ge n).ex nm loc) es H) (kqN Q)) (hc : (es.all notStar && decide (es.length ≤ maxLen)) = true := by kernel_rfl) : Rx ((ev ge (n + 1)).ex nm loc (.List es pos) H) Q := x_list hc (kqN.rl h)
noncomputable abbrev kqD (Q : D → AH → Prop) : List (Str × D) → AH → Prop := fun es H1 => New H1 (.dict (es.foldl (fun r e => putE r e.1 e.2) [])) Q
theorem zD {ks : List (Option Expr)} {vs : List Expr} {pos : Pos} (h : Rp (evP ((ev ge n).ex nm loc) (ks.zip vs) H) (kqD Q)) (hc : (decide (ks.length = vs.length) && decide (ks.length ≤ 15)) = true := by kernel_rfl) : Rx ((ev ge (n + 1)).ex nm loc (.Dict ks vs pos) H) Q := x_dict hc (let ⟨a, b, c, d⟩ := h; ⟨a, b, c, New.at d⟩)
noncomputable abbrev kqP3 (x : Str) (d : D) (QP : List (Str × D) → AH → Prop) : List (Str × D) → AH → Prop := fun ds H2 => QP ((x, d) :: ds) H2
noncomputable abbrev kqP2 (f : Expr → AH → Option (D × AH)) (es : List (Option Expr × Expr)) (x : Str) (QP : List (Str × D) → AH → Prop) : D → AH → Prop := fun d H1 => Rp (evP f es H1) (kqP3 x d QP)
noncomputable abbrev kqP1 (f : Expr → AH → Option (D × AH)) (e : Expr) (es : List (Option Expr × Expr)) (QP : List (Str × D) → AH → Prop) : D → AH → Prop := fun d0 H0 => ∃ x, d0 = .str x ∧ Rx (f e H0) (kqP2 f es x QP)
theorem zpC {f : Expr → AH → Option (D × AH)} {k e : Expr} {es : List (Option Expr × Expr)} (h : Rx (f k H) (kqP1 f e es QP)) : Rp (evP f ((some k, e) :: es) H) QP := p_cons h
noncomputable abbrev kqK (p : Ev) (d : D) (Q : D → AH → Prop) : List D → AH → Prop := fun ds H1 => Rx (p.cl d ds H1) Q
theorem zK {x : Str} {q pos : Pos} {args : List Expr} (d : D) (k : Rl (evs ((ev ge (n + 1)).ex nm loc) args H) (kqK (ev ge (n + 1)) d Q)) (hs : args.all notStar = true := by kernel_rfl) (h : nameVal ge nm loc x = some d := by kernel_rfl) (hc : callable ge d = true := by kernel_rfl) : Rx ((ev ge (n + 2)).ex nm loc (.Call (.Name x q) args [] pos) H) Q := x_call hs h hc k
noncomputable abbrev kqM2 (i : Nat) (name : Str) (Q : D → AH → Prop) : List D → AH → Prop := fun ds H2 => Rx (mcall H2 i name ds) Q
noncomputable abbrev kqM3 (p : Ev) (f : Addr) (i : Nat) (Q : D → AH → Prop) : List D → AH → Prop := fun ds H2 => Rx (p.cl (.fn f) (.ref i :: ds) H2) Q
noncomputable abbrev kqM (p : Ev) (nm : Nms) (loc : Loc) (name : Str) (args : List Expr) (Q : D → AH → Prop) : D → AH → Prop := fun d H1 => ∃ i, d = .ref i ∧ ((∃ ob, H1[i]? = some ob ∧ (∀ C j, ob ≠ .inst C j) ∧ descOk ob name = true ∧ Rl (evs (p.ex nm loc) args H1) (kqM2 i name Q)) ∨
   (∃ C j f, H1[i]? = some (.inst C j) ∧ methOf ge H1 i name = some f ∧ Rl (evs (p.ex nm loc) args H1) (kqM3 p f i Q)))
theorem zM {o : Expr} {name : Str} {apos pos : Pos} {args : List Expr} (k : Rx ((ev ge n).ex nm loc o H) (kqM (ev ge n) nm loc name args Q)) (hs : (isSuper o || !args.all notStar || decide (args.length > 20) || !(apos.endLine == pos.line)) = false := by kernel_rfl) :
  Rx ((ev ge (n + 1)).ex nm loc (.Call (.Attribute o name apos) args [] pos) H) Q := x_meth hs k
noncomputable def noInst : AO → Bool
 | .inst .. => false
 | _ => true
theorem zmO {i : Nat} {ob : AO} {name : Str} {args : List Expr} (h : H[i]? = some ob) (q : Rl (evs (p.ex nm loc) args H) (kqM2 i name Q)) (hn : noInst ob = true := by rfl) (hd : descOk ob name = true := by kernel_rfl) : kqM p nm loc name args Q (.ref i) H :=
 ⟨_, rfl, .inl ⟨_, h, (fun C j e => by subst e; cases hn), hd, q⟩⟩
theorem zmI {i : Nat} {C : Addr} {j : Nat} {f : Addr} {name : Str} {args : List Expr} (h : H[i]? = some (.inst C j)) (hm : methOf ge H i name = some f) (q : Rl (evs (p.ex nm loc) args H) (kqM3 p f i Q)) : kqM p nm loc name args Q (.ref i) H := ⟨_, rfl, .inr ⟨_, _, _, h, hm, q⟩⟩
noncomputable abbrev kqG (a : Str) (Q : D → AH → Prop) : D → AH → Prop := fun d H1 => ∃ r, attrOf ge H1 d a = some r ∧ Q r H1
theorem zG {v : Expr} {a : Str} {pos : Pos} (k : Rx ((ev ge n).ex nm loc v H) (kqG a Q)) (hs : isSuper v = false := by kernel_rfl) : Rx ((ev ge (n + 1)).ex nm loc (.Attribute v a pos) H) Q := x_attr hs k
noncomputable abbrev kqX2 (d : D) (Q : D → AH → Prop) : D → AH → Prop := fun k H2 => ∃ r, getIt H2 d k = some r ∧ Q r H2
noncomputable abbrev kqX1 (p : Ev) (nm : Nms) (loc : Loc) (i : Expr) (Q : D → AH → Prop) : D → AH → Prop := fun d H1 => Rx (p.ex nm loc i H1) (kqX2 d Q)
theorem zX {v i : Expr} {pos : Pos} (k : Rx ((ev ge n).ex nm loc v H) (kqX1 (ev ge n) nm loc i Q)) (hs : isSlice i = false := by kernel_rfl) : Rx ((ev ge (n + 1)).ex nm loc (.Subscript v i pos) H) Q := x_sub hs k
noncomputable abbrev kqZ4 (d a b : D) (Q : D → AH → Prop) : D → AH → Prop := fun c H4 => Rx (sliceIt H4 d a b c) Q
noncomputable abbrev kqZ3 (f : Expr → AH → Option (D × AH)) (st : Option Expr) (d a : D) (Q : D → AH → Prop) : D → AH → Prop := fun b H3 => Rx (optE f st H3) (kqZ4 d a b Q)
noncomputable abbrev kqZ2 (f : Expr → AH → Option (D × AH)) (hi st : Option Expr) (d : D) (Q : D → AH → Prop) : D → AH → Prop := fun a H2 => Rx (optE f hi H2) (kqZ3 f st d a Q)
noncomputable abbrev kqZ1 (f : Expr → AH → Option (D × AH)) (lo hi st : Option Expr) (Q : D → AH → Prop) : D → AH → Prop := fun d H1 => Rx (optE f lo H1) (kqZ2 f hi st d Q)
theorem zZ {v : Expr} {lo hi st : Option Expr} {q0 pos : Pos} (k : Rx ((ev ge n).ex nm loc v H) (kqZ1 ((ev ge n).ex nm loc) lo hi st Q)) : Rx ((ev ge (n + 1)).ex nm loc (.Subscript v (.Slice lo hi st q0) pos) H) Q := x_slice k
noncomputable abbrev kqY (p : Ev) (nm' : Nms) (elt t : Expr) (ifs : List Expr) (loc' : Loc) (Q : D → AH → Prop) : D → AH → Prop := fun d H1 => ∃ ds o, src H1 d = some (ds, o) ∧ ds.length ≤ maxLen ∧ Rl (cloop (still o ds) (cstep p nm' elt t ifs) ds loc' H1) (kqN Q)
theorem zY {elt t iter : Expr} {ifs : List Expr} {sc : Scope} {pos : Pos} (loc' : Loc) (k : Rx ((ev ge n).ex nm loc iter H) (kqY (ev ge n) sc.names elt t ifs loc' Q))
  (hs : scopeOk nm sc = true := by kernel_rfl) (hn : notSet iter = true := by kernel_rfl) (h2 : cLoc0 sc loc = loc' := by kernel_rfl) : Rx ((ev ge (n + 1)).ex nm loc (.ListComp elt [⟨t, iter, ifs, 0⟩] sc pos) H) Q := x_comp' hs hn rfl h2 (let ⟨a, b, c, d, e, f, g, h⟩ := k; ⟨a, b, c, d, e, f, g, kqN.rl h⟩)
noncomputable abbrev kqTn (QT : Bool → AH → Prop) : Bool → AH → Prop := fun b H1 => QT (!b) H1
theorem ztN {x : Expr} {pos : Pos} (h : Rt ((ev ge n).tr nm loc x H) (kqTn QT)) : Rt ((ev ge (n + 1)).tr nm loc (.UnaryOp .Not x pos) H) QT := t_not h
noncomputable abbrev kqTa (f : Expr → AH → Option (Bool × AH)) (r : List Expr) (QT : Bool → AH → Prop) : Bool → AH → Prop := fun b H1 => if b = true then Rt (allT f .And r H1) QT else QT false H1
theorem ztA {f : Expr → AH → Option (Bool × AH)} {e : Expr} {r : List Expr} (h : Rt (f e H) (kqTa f r QT)) : Rt (allT f .And (e :: r) H) QT := a_and h
noncomputable abbrev kqTo (f : Expr → AH → Option (Bool × AH)) (r : List Expr) (QT : Bool → AH → Prop) : Bool → AH → Prop := fun b H1 => if b = true then QT true H1 else Rt (allT f .Or r H1) QT
theorem ztO {f : Expr → AH → Option (Bool × AH)} {e : Expr} {r : List Expr} (h : Rt (f e H) (kqTo f r QT)) : Rt (allT f .Or (e :: r) H) QT := a_or h
noncomputable abbrev kqTc2 (op : CmpOp) (a : D) (QT : Bool → AH → Prop) : D → AH → Prop := fun b H2 => ∃ t, cmp H2 op a b = some t ∧ QT t H2
noncomputable abbrev kqTc1 (p : Ev) (nm : Nms) (loc : Loc) (r : Expr) (op : CmpOp) (QT : Bool → AH → Prop) : D → AH → Prop := fun a H1 => Rx (p.ex nm loc r H1) (kqTc2 op a QT)
theorem ztC {l r : Expr} {op : CmpOp} {pos : Pos} (h : Rx ((ev ge n).ex nm loc l H) (kqTc1 (ev ge n) nm loc r op QT)) (hm : behindInMarks op r = false := by kernel_rfl) : Rt ((ev ge (n + 1)).tr nm loc (.Compare l [op] [r] pos) H) QT := t_cmp hm h
noncomputable abbrev kqTv (QT : Bool → AH → Prop) : D → AH → Prop := fun d H1 => ∃ b, truth d = some b ∧ QT b H1
theorem ztV {e : Expr} (h : Rx ((ev ge n).ex nm loc e H) (kqTv QT)) (he : trD ge (ev ge n) nm loc e H = (match (ev ge n).ex nm loc e H with | some (d, H1) => (truth d).map fun b => (b, H1) | none => none) := by rfl) :
  Rt ((ev ge (n + 1)).tr nm loc e H) QT := t_val he h
noncomputable abbrev kqS (f : Stmt → Loc → AH → Option (Flw × Loc × AH)) (r : List Stmt) (QS : Flw → Loc → AH → Prop) : Flw → Loc → AH → Prop := fun fl l1 H1 => match fl with | .next => Rs (stsL f r l1 H1) QS | .ret d => QS (.ret d) l1 H1
theorem zsK {f : Stmt → Loc → AH → Option (Flw × Loc × AH)} {s : Stmt} {r : List Stmt} (h : Rs (f s loc H) (kqS f r QS)) : Rs (stsL f (s :: r) loc H) QS := s_cons h
theorem zsL {f : Stmt → Loc → AH → Option (Flw × Loc × AH)} {ss : List Stmt} (loc' : Loc) (q : Rs (stsL f ss loc' H) QS) (h : loc = loc' := by kernel_rfl) : Rs (stsL f ss loc H) QS := s_loc h q
noncomputable abbrev kqSe (loc : Loc) (QS : Flw → Loc → AH → Prop) : D → AH → Prop := fun _ H1 => QS .next loc H1
theorem zsX {f : Expr} {as : List Expr} {ks : List Keyword} {q pos : Pos} (h : Rx ((ev ge n).ex nm loc (.Call f as ks q) H) (kqSe loc QS)) : Rs ((ev ge (n + 1)).st nm (.Expr (.Call f as ks q) pos) loc H) QS := s_expr h
noncomputable abbrev kqSr (loc : Loc) (QS : Flw → Loc → AH → Prop) : D → AH → Prop := fun d H1 => QS (.ret d) loc H1
theorem zsR {e : Expr} {pos : Pos} (h : Rx ((ev ge n).ex nm loc e H) (kqSr loc QS)) : Rs ((ev ge (n + 1)).st nm (.Return (some e) pos) loc H) QS := s_ret h
noncomputable abbrev kqI (f : Stmt → Loc → AH → Option (Flw × Loc × AH)) (b o : List Stmt) (loc : Loc) (QS : Flw → Loc → AH → Prop) : Bool → AH → Prop := fun c H1 => if c = true then Rs (stsL f b loc H1) QS else Rs (stsL f o loc H1) QS
theorem zsI {t : Expr} {b o : List Stmt} {pos : Pos} (h : Rt ((ev ge n).tr nm loc t H) (kqI ((ev ge n).st nm) b o loc QS)) : Rs ((ev ge (n + 1)).st nm (.If t b o pos) loc H) QS := s_if h
noncomputable abbrev kqSn (x : Str) (loc : Loc) (QS : Flw → Loc → AH → Prop) : D → AH → Prop := fun d H1 => QS .next (put loc x d) H1
theorem zsN {x : Str} {q0 pos : Pos} {v : Expr} (h : Rx ((ev ge n).ex nm loc v H) (kqSn x loc QS)) (hok : swapOk (.Name x q0) v = true := by kernel_rfl) (hc : isComp v = false := by kernel_rfl) (hx : isOwn (nm.lookup x) = true := by kernel_rfl) :
  Rs ((ev ge (n + 1)).st nm (.Assign [.Name x q0] v pos) loc H) QS := s_asg hok hc hx h
theorem zsC {x : Str} {q0 pos : Pos} {v : Expr} (h : Rx ((ev ge (n + 1)).ex nm loc v H) (kqSn x loc QS)) (hok : swapOk (.Name x q0) v = true := by kernel_rfl) (hc : isComp v = true := by kernel_rfl) (hx : isOwn (nm.lookup x) = true := by kernel_rfl) :
  Rs ((ev ge (n + 1)).st nm (.Assign [.Name x q0] v pos) loc H) QS := s_asgc hok hc hx h
noncomputable abbrev kqSt (nm : Nms) (t : Expr) (loc : Loc) (QS : Flw → Loc → AH → Prop) : D → AH → Prop := fun d H1 => ∃ l1, bindT nm t d loc = some l1 ∧ QS .next l1 H1
theorem zsT {ts : List Expr} {k : Nat} {q0 pos : Pos} {v : Expr} (h : Rx ((ev ge n).ex nm loc v H) (kqSt nm (.Tuple ts k q0) loc QS)) (hok : swapOk (.Tuple ts k q0) v = true := by kernel_rfl) (hc : isComp v = false := by kernel_rfl) :
  Rs ((ev ge (n + 1)).st nm (.Assign [.Tuple ts k q0] v pos) loc H) QS := s_asgt hok hc h
noncomputable abbrev kqSa2 (a : Str) (d : D) (loc : Loc) (QS : Flw → Loc → AH → Prop) : D → AH → Prop := fun b H2 => ∃ H3, setAttr ge H2 b a d = some H3 ∧ QS .next loc H3
noncomputable abbrev kqSa1 (p : Ev) (nm : Nms) (o : Expr) (a : Str) (loc : Loc) (QS : Flw → Loc → AH → Prop) : D → AH → Prop := fun d H1 => Rx (p.ex nm loc o H1) (kqSa2 a d loc QS)
theorem zsA {o : Expr} {a : Str} {q0 pos : Pos} {v : Expr} (h : Rx ((ev ge n).ex nm loc v H) (kqSa1 (ev ge n) nm o a loc QS)) (hok : swapOk (.Attribute o a q0) v = true := by kernel_rfl) (hc : isComp v = false := by kernel_rfl) (ha : PyData.strOk a = true := by kernel_rfl) :
  Rs ((ev ge (n + 1)).st nm (.Assign [.Attribute o a q0] v pos) loc H) QS := s_asga hok hc ha h
noncomputable abbrev kqSs3 (d b : D) (loc : Loc) (QS : Flw → Loc → AH → Prop) : D → AH → Prop := fun k H3 => ∃ H4, setIt H3 b k d = some H4 ∧ QS .next loc H4
noncomputable abbrev kqSs2 (p : Ev) (nm : Nms) (i : Expr) (d : D) (loc : Loc) (QS : Flw → Loc → AH → Prop) : D → AH → Prop := fun b H2 => Rx (p.ex nm loc i H2) (kqSs3 d b loc QS)
noncomputable abbrev kqSs1 (p : Ev) (nm : Nms) (o i : Expr) (loc : Loc) (QS : Flw → Loc → AH → Prop) : D → AH → Prop := fun d H1 => Rx (p.ex nm loc o H1) (kqSs2 p nm i d loc QS)
theorem zsS {o i : Expr} {q0 pos : Pos} {v : Expr} (h : Rx ((ev ge n).ex nm loc v H) (kqSs1 (ev ge n) nm o i loc QS))
  (hok : swapOk (.Subscript o i q0) v = true := by kernel_rfl) (hc : isComp v = false := by kernel_rfl) (hi : isSlice i = false := by kernel_rfl) : Rs ((ev ge (n + 1)).st nm (.Assign [.Subscript o i q0] v pos) loc H) QS := s_asgs hok hc hi h
noncomputable abbrev kqSf (p : Ev) (nm : Nms) (t : Expr) (b : List Stmt) (loc : Loc) (QS : Flw → Loc → AH → Prop) : D → AH → Prop := fun d H1 => ∃ ds o, src H1 d = some (ds, o) ∧ ds.length ≤ maxLen ∧ Rs (loop (still o ds) (lstep p nm t b) ds loc H1) QS
theorem zsF {t it : Expr} {b : List Stmt} {pos : Pos} (h : Rx ((ev ge n).ex nm loc it H) (kqSf (ev ge n) nm t b loc QS)) (he : enumArg ge nm loc it = none := by kernel_rfl) (hn : notSet it = true := by kernel_rfl) :
  Rs ((ev ge (n + 1)).st nm (.For t it b [] pos) loc H) QS := s_forx he hn h
noncomputable abbrev kqSg (p : Ev) (nm : Nms) (t : Expr) (b : List Stmt) (loc : Loc) (QS : Flw → Loc → AH → Prop) : D → AH → Prop := fun d H1 => ∃ i ds, d = .ref i ∧ listAt H1 i = some ds ∧ ds.length ≤ maxLen ∧ Rs (loop (still (some i) ds) (lstep p nm t b) (enumOf ds) loc H1) QS
theorem zsE {t f x : Expr} {ks : List Keyword} {q : Pos} {b : List Stmt} {pos : Pos} (h : Rx ((ev ge n).ex nm loc x H) (kqSg (ev ge n) nm t b loc QS))
  (he : enumArg ge nm loc (.Call f [x] ks q) = some x := by kernel_rfl) (hn : (!isTup t || !notStar x) = false := by kernel_rfl) : Rs ((ev ge (n + 1)).st nm (.For t (.Call f [x] ks q) b [] pos) loc H) QS := s_fore he hn h
theorem zbR {a b : Int} (q : Q (.int (a * b)) H) (h : small b = true := by kernel_rfl) : Rx (binop H .Mult (.int a) (.int b)) Q := b_mulr h q
theorem zbL {a b : Int} (q : Q (.int (a * b)) H) (h : small a = true := by kernel_rfl) : Rx (binop H .Mult (.int a) (.int b)) Q := b_mull h q
theorem zbT {P : Loc → Prop} {t : Expr} {d : D} (l : Loc) (q : P l) (h : bindT nm t d loc = some l := by kernel_rfl) : ∃ l, bindT nm t d loc = some l ∧ P l := ⟨l, h, q⟩
noncomputable abbrev kqC5 (l : Loc) (QC : Option D → Loc → AH → Prop) : D → AH → Prop := fun d H1 => QC (some d) l H1
theorem zc0 {elt t : Expr} {d : D} (h : ∃ l1, bindT nm t d loc = some l1 ∧ Rx ((ev ge n).ex nm l1 elt H) (kqC5 l1 QC)) : Rc (cstep (ev ge n) nm elt t [] d loc H) QC := c_step0 h
noncomputable abbrev kqC6 (p : Ev) (nm : Nms) (elt : Expr) (l1 : Loc) (QC : Option D → Loc → AH → Prop) : Bool → AH → Prop := fun b H1 => if b = true then Rx (p.ex nm l1 elt H1) (kqC5 l1 QC) else QC none l1 H1
theorem zc1 {elt t c : Expr} {d : D} (h : ∃ l1, bindT nm t d loc = some l1 ∧ Rt ((ev ge n).tr nm l1 c H) (kqC6 (ev ge n) nm elt l1 QC)) : Rc (cstep (ev ge n) nm elt t [c] d loc H) QC := c_step1 h
noncomputable abbrev kqLp (chk : AH → Bool) (I : List D → Loc → AH → Prop) (r : List D) (QS : Flw → Loc → AH → Prop) : Flw → Loc → AH → Prop := fun fl l1 H1 => match fl with | .next => chk H1 = true ∧ I r l1 H1 | .ret v => QS (.ret v) l1 H1
set_option tactic.hygienic true in
theorem zlp {chk : AH → Bool} {step : D → Loc → AH → Option (Flw × Loc × AH)} (I : List D → Loc → AH → Prop) (hs : ∀ d r l H, I (d :: r) l H → Rs (step d l H) (kqLp chk I r QS))
  (hd : ∀ l H, I [] l H → QS .next l H) {ds : List D} (h : I ds loc H) : Rs (loop chk step ds loc H) QS := loop_inv I hs hd h
noncomputable abbrev kqCp (chk : AH → Bool) (I : List D → List D → Loc → AH → Prop) (r acc : List D) : Option D → Loc → AH → Prop := fun x l1 H1 => chk H1 = true ∧ I r (match x with | some y => acc ++ [y] | none => acc) l1 H1
theorem zcp {chk : AH → Bool} {step : D → Loc → AH → Option (Option D × Loc × AH)} (I : List D → List D → Loc → AH → Prop) (hs : ∀ d r acc l H, I (d :: r) acc l H → Rc (step d l H) (kqCp chk I r acc))
  (hd : ∀ rs l H, I [] ([] ++ rs) l H → QL rs H) {ds : List D} (h : I ds [] loc H) : Rl (cloop chk step ds loc H) QL := cloop_inv I hs QL (acc := []) hd h
noncomputable abbrev kqW2 (I : Nat → Loc → AH → Prop) (m : Nat) (QS : Flw → Loc → AH → Prop) : Flw → Loc → AH → Prop := fun fl l1 H2 => match fl with | .next => ∃ m', m' < m ∧ I m' l1 H2 | .ret v => QS (.ret v) l1 H2
noncomputable abbrev kqW1 (body : Loc → AH → Option (Flw × Loc × AH)) (I : Nat → Loc → AH → Prop) (m : Nat) (l : Loc) (QS : Flw → Loc → AH → Prop) : Bool → AH → Prop := fun b H1 => if b = true then Rs (body l H1) (kqW2 I m QS) else QS .next l H1
theorem zwp {test : Loc → AH → Option (Bool × AH)} {body : Loc → AH → Option (Flw × Loc × AH)} (I : Nat → Loc → AH → Prop) (hs : ∀ m l H, I m l H → Rt (test l H) (kqW1 body I m l QS)) {k m : Nat} (hk : m < k) (h : I m loc H) : Rs (wloop test body k loc H) QS := wloop_inv I hs hk h
theorem fu {n j k : Nat} (h : k ≤ j) : k ≤ n + j := Nat.le_trans h (Nat.le_add_left j n)
theorem ite_t {c a b : Prop} [Decidable c] (h : c) (x : a) : if c then a else b := by rw [if_pos h]; exact x
theorem ite_f {c a b : Prop} [Decidable c] (h : ¬ c) (x : b) : if c then a else b := by rw [if_neg h]; exact x
end
end Mine
end

-- WD
section
namespace Mine
noncomputable def KeepBut (S : Nat → Prop) (H H' : AH) : Prop := ∀ (i : Nat) (o : AO), ¬ S i → H[i]? = some o → H'[i]? = some o
section
variable {n : Nat} {H H' H₁ H₂ : AH} {Q : D → AH → Prop} {S : Nat → Prop}
theorem Keep.refl (H : AH) : Keep H H := fun O O e => e
theorem Keep.trans (a : Keep H H₁) (b : Keep H₁ H₂) : Keep H H₂ := fun i o e => b i o (a i o e)
theorem Keep.push (o : AO) : Keep H (H ++ [o]) := fun i o' e => by rw [List.getElem?_append_left (List.getElem?_eq_some_iff.mp e).1]; exact e
theorem Keep.app (l : AH) : Keep H (H ++ l) := fun i o' e => by rw [List.getElem?_append_left (List.getElem?_eq_some_iff.mp e).1]; exact e
theorem Keep.len (k : Keep H H') : H.length ≤ H'.length := by
 cases h : H.length with
 | zero => exact Nat.zero_le _
 | succ m =>
  have e := k m H[m] (List.getElem?_eq_getElem (by exact ln1 1473601 104041856041 [_,_] [] h));have := (List.getElem?_eq_some_iff.mp e).1;exact ln1 90255446401 1473601 [_,_] [] this
theorem Keep.set {i : Nat} {o : AO} (k : Keep H H') (hi : H.length ≤ i) : Keep H (H'.set i o) := fun j o' e => by
 have hj := (List.getElem?_eq_some_iff.mp e).1;rw [List.getElem?_set_ne (by exact fun hq => ln3 1200 1537601 1408081 1475241 [_,_,_] [] hq hi hj)];exact k j o' e
theorem Keep.pushed (k : Keep H H') (o : AO) : Keep H (H' ++ [o]) := k.trans (.push o)
theorem Keep.but (k : Keep H H') : KeepBut S H H' := fun i o O e => k i o e
theorem KeepBut.trans (a : KeepBut S H H₁) (b : KeepBut S H₁ H₂) : KeepBut S H H₂ := fun i o h e => b i o h (a i o h e)
theorem KeepBut.set {i : Nat} {o : AO} (k : KeepBut S H H') (hi : S i) : KeepBut S H (H'.set i o) := fun j o' h e => by
 have hij : i ≠ j := fun e' => h (by rw [← e']; exact hi);rw [List.getElem?_set_ne hij];exact k j o' h e
theorem KeepBut.pushed (k : KeepBut S H H') (o : AO) : KeepBut S H (H' ++ [o]) := fun i o' h e => Keep.push o i o' (k i o' h e)
theorem at_new (o : AO) : (H ++ [o])[H.length]? = some o := by simp
theorem at_set {i : Nat} {o o' : AO} (h : H[i]? = some o) : (H.set i o')[i]? = some o' := by
 rw [List.getElem?_set_self (List.getElem?_eq_some_iff.mp h).1]
theorem at_set_ne {i j : Nat} {o o' : AO} (hij : i ≠ j) (h : H[j]? = some o) : (H.set i o')[j]? = some o := by
 rw [List.getElem?_set_ne hij]; exact h
theorem lt_of_at {i : Nat} {o : AO} (h : H[i]? = some o) : i < H.length := (List.getElem?_eq_some_iff.mp h).1
theorem listAt_of {i : Nat} {ds : List D} (h : H[i]? = some (.list ds)) : listAt H i = some ds := by unfold listAt; rw [h]
theorem dictAt_of' {i : Nat} {es : List (Str × D)} (h : H[i]? = some (.dict es)) : dictAt H i = some es := by unfold dictAt; rw [h]
theorem g_dict {i : Nat} {k : Str} {es : List (Str × D)} {r : D} {R : D → Prop} (h : H[i]? = some (.dict es)) (hr : es.lookup k = some r) (q : R r) : ∃ r, getIt H (.ref i) (.str k) = some r ∧ R r :=
 ⟨r, by unfold getIt; dsimp only; rw [dictAt_of' h]; exact hr, q⟩
theorem g_list {i : Nat} {k : Int} {ds : List D} {r : D} {R : D → Prop} (h : H[i]? = some (.list ds)) (hl : ds.length ≤ maxLen) (hr : nth ds k = some r) (q : R r) : ∃ r, getIt H (.ref i) (.int k) = some r ∧ R r :=
 ⟨r, by unfold getIt; dsimp only; rw [listAt_of h]; dsimp only; rw [if_pos hl]; exact hr, q⟩
theorem g_tup {k : Int} {ds : List D} {r : D} {R : D → Prop} (hl : ds.length ≤ maxLen) (hr : nth ds k = some r) (q : R r) : ∃ r, getIt H (.tup ds) (.int k) = some r ∧ R r :=
 ⟨r, by unfold getIt; dsimp only; rw [if_pos hl]; exact hr, q⟩
theorem g_fl {k : Int} {ds : List D} {r : D} {R : D → Prop} (hl : ds.length ≤ maxLen) (hr : nth ds k = some r) (q : R r) : ∃ r, getIt H (.fl ds) (.int k) = some r ∧ R r :=
 ⟨r, by unfold getIt; dsimp only; rw [if_pos hl]; exact hr, q⟩
theorem nth_nat {ds : List D} {k : Nat} {r : D} (h : ds[k]? = some r) : nth ds (k : Int) = some r := by
 unfold nth;rw [if_pos (Int.natCast_nonneg k)];simpa using h
theorem nth_of {ds : List D} {k : Int} {r : D} (h0 : 0 ≤ k) (h : ds[k.toNat]? = some r) : nth ds k = some r := by
 unfold nth; rw [if_pos h0]; exact h
theorem u_dict {i : Nat} {k : Str} {es : List (Str × D)} {v : D} {R : AH → Prop} (h : H[i]? = some (.dict es)) (hl : es.length ≤ maxLen) (q : R (H.set i (.dict (putE es k v)))) : ∃ H', setIt H (.ref i) (.str k) v = some H' ∧ R H' :=
 ⟨_, by unfold setIt; dsimp only; rw [dictAt_of' h]; dsimp only; rw [if_pos hl], q⟩
theorem u_list {i : Nat} {k : Int} {ds ds' : List D} {v : D} {R : AH → Prop} (h : H[i]? = some (.list ds)) (hl : ds.length ≤ maxLen) (hs : setNth ds k v = some ds') (q : R (H.set i (.list ds'))) : ∃ H', setIt H (.ref i) (.int k) v = some H' ∧ R H' :=
 ⟨_, by unfold setIt; dsimp only; rw [listAt_of h]; dsimp only; rw [if_pos hl, hs]; rfl, q⟩
theorem m_append {i : Nat} {ds : List D} {d : D} (h : H[i]? = some (.list ds)) (hl : ds.length ≤ maxLen) (q : Q .none (H.set i (.list (ds ++ [d])))) : Rx (mcall H i "append" [d]) Q :=
 ⟨_, _, by unfold mcall; rw [h]; dsimp only; rw [if_pos (by decide +kernel), if_pos hl], q⟩
theorem m_pop {i : Nat} {ds : List D} {d : D} (h : H[i]? = some (.list (ds ++ [d]))) (hl : ds.length < maxLen) (q : Q d (H.set i (.list ds))) : Rx (mcall H i "pop" []) Q :=
 ⟨_, _, by
  unfold mcall; rw [h]; dsimp only;rw [if_neg (by decide +kernel), if_pos (by decide +kernel), List.getLast?_concat];dsimp only
  rw [if_pos (by rw [List.length_append, List.length_singleton]; exact ln1 5783946588246401 94470164801 [_] [] hl), List.dropLast_concat], q⟩
theorem m_get1 {i : Nat} {es : List (Str × D)} {k : Str} (h : H[i]? = some (.dict es)) (q : Q ((es.lookup k).getD .none) H) : Rx (mcall H i "get" [.str k]) Q :=
 ⟨_, _, by unfold mcall; rw [h]; dsimp only; rw [if_pos (by decide +kernel)], q⟩
theorem m_get2 {i : Nat} {es : List (Str × D)} {k : Str} {d : D} (h : H[i]? = some (.dict es)) (q : Q ((es.lookup k).getD d) H) : Rx (mcall H i "get" [.str k, d]) Q :=
 ⟨_, _, by unfold mcall; rw [h]; dsimp only; rw [if_pos (by decide +kernel)], q⟩
theorem m_items {i : Nat} {es : List (Str × D)} (h : H[i]? = some (.dict es)) (q : Q (.items i) H) : Rx (mcall H i "items" []) Q :=
 ⟨_, _, by unfold mcall; rw [h]; dsimp only; rw [if_neg (by decide +kernel), if_pos (by decide +kernel)], q⟩
theorem w_len {i : Nat} {ds : List D} (h : H[i]? = some (.list ds)) (hl : ds.length ≤ maxLen) (q : Q (.int ds.length) H) : Rx (bcall H .len [.ref i]) Q :=
 ⟨_, _, by unfold bcall; dsimp only; rw [listAt_of h]; dsimp only; rw [if_pos hl], q⟩
theorem w_lent {ds : List D} (hl : ds.length ≤ maxLen) (q : Q (.int ds.length) H) : Rx (bcall H .len [.tup ds]) Q :=
 ⟨_, _, by unfold bcall; dsimp only; rw [if_pos hl], q⟩
theorem small_of {a : Int} (h0 : 0 ≤ a) (h : a < 1000000000000) : small a = true := by
 unfold small;rw [Bool.and_eq_true, decide_eq_true_eq, decide_eq_true_eq];exact ⟨Int.lt_of_lt_of_le (by decide) h0, Int.lt_trans h (by decide)⟩
theorem eqv_str (a b : Str) : PyData.eqv (.str a) (.str b) = (a == b) := by simp [PyData.eqv]
theorem eqv_int (a b : Int) : PyData.eqv (.int a) (.int b) = (a == b) := by simp [PyData.eqv]
end
end Mine
namespace Mine
section
variable {n : Nat} {H H' H₁ H₂ : AH} {Q : D → AH → Prop} {S : Nat → Prop}
theorem sl_fl {ds rs : List D} {a b c : D} {oa ob oc : Option Int} (h1 : part a = some oa) (h2 : part b = some ob) (h3 : part c = some oc) (hl : ds.length ≤ maxLen) (hc : cut ds oa ob oc = some rs) (hr : rs.length ≤ maxLen) (q : New H (.list rs) Q) : Rx (sliceIt H (.fl ds) a b c) Q :=
 ⟨_, _, by unfold sliceIt; rw [h1, h2, h3]; dsimp only; rw [if_pos hl, hc]; dsimp only; unfold newL alloc; rw [if_pos hr], New.at q⟩
theorem sl_list {i : Nat} {ds rs : List D} {a b c : D} {oa ob oc : Option Int} (h : H[i]? = some (.list ds)) (h1 : part a = some oa) (h2 : part b = some ob) (h3 : part c = some oc) (hl : ds.length ≤ maxLen) (hc : cut ds oa ob oc = some rs) (hr : rs.length ≤ maxLen) (q : New H (.list rs) Q) :
  Rx (sliceIt H (.ref i) a b c) Q :=
 ⟨_, _, by unfold sliceIt; rw [h1, h2, h3]; dsimp only; rw [listAt_of h]; dsimp only; rw [if_pos hl, hc]; dsimp only; unfold newL alloc; rw [if_pos hr], New.at q⟩
theorem src_ref {i : Nat} {ds : List D} (h : H[i]? = some (.list ds)) : src H (.ref i) = some (ds, some i) := by unfold src; dsimp only; rw [listAt_of h]; rfl
theorem still_ref {i : Nat} {ds : List D} (h : H[i]? = some (.list ds)) : still (some i) ds H = true := by unfold still; dsimp only; rw [listAt_of h]; simp
theorem still_none {ds : List D} : still none ds H = true := rfl
end
end Mine
end

-- WE
section
namespace Mine
theorem u_dict' {H : AH} {i : Nat} {k : Str} {es : List (Str × D)} (es' : List (Str × D)) {v : D} {R : AH → Prop} (h : H[i]? = some (.dict es)) (hl : es.length ≤ maxLen) (he : putE es k v = es') (q : R (H.set i (.dict es'))) : ∃ H', setIt H (.ref i) (.str k) v = some H' ∧ R H' :=
 u_dict h hl (by rw [he]; exact q)
noncomputable abbrev deckD (c : Nat) (m t : Int) : List (Str × D) := [(("cells" : Str), .ref c), (("mixed" : Str), .int m), (("turn" : Str), .int t)]
structure Deck (H : AH) (i c : Nat) (t : Int) : Prop where
 dict : ∃ m : Int, 0 ≤ m ∧ m < 2147483587 ∧ H[i]? = some (.dict (deckD c m t))
 cells : ∃ cs : List Int, cs.length ≤ 100 ∧ H[c]? = some (.list (cs.map .int))
 t0 : 0 ≤ t
theorem py_ints {H : AH} {n : Nat} : ∀ (cs : List Int), omap (py H n) (cs.map D.int) = some (cs.map PyData.int)
 | [] => rfl
 | c :: cs => by
  rw [List.map_cons];unfold omap
  have : py H n (.int c) = some (.int c) := by cases n <;> rfl
  rw [this]; dsimp only; rw [py_ints cs]; rfl
theorem ne_nil {H : AH} {c j : Nat} {cs : List Int} {R : Bool → Prop} (hc : H[c]? = some (.list (cs.map .int))) (hj : H[j]? = some (.list [])) (q : R (decide (cs ≠ []))) : ∃ t, cmp H .NotEq (.ref c) (.ref j) = some t ∧ R t := by
 refine in12 _ ?_ q
 show (isEq H (.ref c) (.ref j)).map (!·) = _
 have h1 : py H 3 (.ref c) = some (.list (cs.map .int)) := by
  unfold py; dsimp only; rw [listAt_of hc]; dsimp only; rw [py_ints]; rfl
 have h2 : py H 3 (.ref j) = some (.list []) := by
  unfold py; dsimp only; rw [listAt_of hj]; rfl
 unfold isEq;dsimp only;rw [h1, h2];dsimp only
 cases cs with
 | nil => simp [PyData.eqv, PyData.eqvAll]
 | cons x cs => simp [PyData.eqv, PyData.eqvAll]
theorem fmod_lo {a b : Int} (h : 0 < b) : 0 ≤ a.fmod b := Int.fmod_nonneg_of_pos _ h
theorem fmod_hi {a b : Int} (h : 0 < b) : a.fmod b < b := Int.fmod_lt_of_pos _ h
theorem small_mod {a b : Int} (h : 0 < b) (h2 : b < 1000000000000) : small (a.fmod b) = true := small_of (fmod_lo h) (Int.lt_trans (fmod_hi h) h2)
abbrev po_draw_spec (i c : Nat) (below t : Int) (H : AH) : D → AH → Prop := fun d H' => ∃ r : Int, d = .int r ∧ 0 ≤ r ∧ r < below ∧ KeepBut (fun j => j = i ∨ j = c) H H' ∧ Deck H' i c (t + 1)
noncomputable def frWE0 (x0 x1 : Mine.D) : Loc := [("deck", some x0), ("below", some x1), ("figure", none), ("cell", none)]
noncomputable def frWE1 (x0 x1 x2 : Mine.D) : Loc := [("deck", some x0), ("below", some x1), ("figure", some x2), ("cell", none)]
noncomputable def frWE2 (x0 x1 x2 x3 : Mine.D) : Loc := [("deck", some x0), ("below", some x1), ("figure", some x2), ("cell", some x3)]
theorem draw_spec {n i c : Nat} {below t : Int} {H : AH} (D : Deck H i c t) (h0 : 0 < below) (h1 : below < 1000) (ht : t < 100000) :
  Rx ((ev ge (n + 30)).cl (.fn 272) [.ref i, .int below] H) (po_draw_spec i c below t H) := by
 refine el13 (D.dict) fun m m0 m1 hd => ?_;refine el12 (D.cells) fun cs cl hc => ?_;have t0 := D.t0
 have hic : i ≠ c := by rintro rfl; rw [hd] at hc; cases hc
 refine zcF (frWE0 (Mine.D.ref i) (Mine.D.int below)) ?_;refine zsK ?_;refine zsS ?_;refine zP ?_;refine zX ?_;refine zN (.ref i) ?_;refine zS ?_;refine g_dict (r := .int t) hd (by kernel_rfl) ?_;refine zI ?_;refine b_add ?_;refine zN (.ref i) ?_;refine zS ?_;refine u_dict' (deckD c m (t + 1)) hd (by simp [maxLen]) (by kernel_rfl) ?_;have hd1 := at_set (o' := .dict (deckD c m (t + 1))) hd;have hc1 := at_set_ne (o' := AO.dict (deckD c m (t + 1))) hic hc;have kb1 : KeepBut (fun j => j = i ∨ j = c) H (H.set i (.dict (deckD c m (t + 1)))) := KeepBut.set (fun O O O e => e) (.inl rfl);generalize H.set i (.dict (deckD c m (t + 1))) = H1 at hd1 hc1 kb1;refine zsK ?_;refine zsN ?_;refine zP ?_;refine zX ?_;refine zN (.ref i) ?_;refine zS ?_;refine g_dict (r := .int m) hd1 (by kernel_rfl) ?_;refine zP ?_;refine zP ?_;refine zI ?_;refine zX ?_;refine zN (.ref i) ?_;refine zS ?_;refine g_dict (r := .int (t + 1)) hd1 (by kernel_rfl) ?_;refine zbL ?_;refine zX ?_;refine zN (.ref i) ?_;refine zS ?_;refine g_dict (r := .int (t + 1)) hd1 (by kernel_rfl) ?_;refine b_mulr (small_of (by exact ln1 4325514752561 67072561 [] [_] t0) (by omega)) ?_;refine b_add ?_;refine zsL (frWE1 (Mine.D.ref i) (Mine.D.int below) (Mine.D.int (m + 69090 * (t + 1) * (t + 1)))) ?_;refine zsK ?_;refine zsI ?_;refine ztC ?_;refine zX ?_;refine zN (.ref i) ?_;refine zS ?_;refine g_dict (r := .ref c) hd1 (by kernel_rfl) ?_;refine zL ?_;refine l_nil ?_;refine ⟨by decide, ?_⟩;intro j H2 kk hj lj;have hd2 := kk _ _ hd1;have hc2 := kk _ _ hc1;have kb2 := KeepBut.trans kb1 (Keep.but kk);refine ne_nil hc2 hj ?_
 by_cases hcs : cs = []
 ·refine ite_f (by simpa using hcs) ?_;refine s_nil ?_;refine zsK ?_;refine zsN ?_;refine zP ?_;refine zP ?_;refine zP ?_;refine zN (.int (m + 69090 * (t + 1) * (t + 1))) ?_;refine zI ?_;refine b_mod (by decide) ?_;refine zI ?_;refine zbR ?_;refine zI ?_;refine b_mod (by decide) ?_;refine zsL (frWE1 (Mine.D.ref i) (Mine.D.int below) (Mine.D.int (((m + 69090 * (t + 1) * (t + 1)).fmod 2147483629 * 40692).fmod 2147483647))) ?_;refine zsK ?_;refine zsN ?_;refine zP ?_;refine zP ?_;refine zP ?_;refine zN (.int (((m + 69090 * (t + 1) * (t + 1)).fmod 2147483629 * 40692).fmod 2147483647)) ?_;refine zN (.int (((m + 69090 * (t + 1) * (t + 1)).fmod 2147483629 * 40692).fmod 2147483647)) ?_;refine b_mulr (small_mod (by decide) (by decide)) ?_;refine zI ?_;refine b_add ?_;refine zI ?_;refine b_mod (by decide) ?_;refine zsL (frWE1 (Mine.D.ref i) (Mine.D.int below) (Mine.D.int ((((m + 69090 * (t + 1) * (t + 1)).fmod 2147483629 * 40692).fmod 2147483647 * ((m + 69090 * (t + 1) * (t + 1)).fmod 2147483629 * 40692).fmod 2147483647 + 9091).fmod 2147483587))) ?_;refine zsK ?_;refine zsR ?_;refine zP ?_;refine zP ?_;refine zP ?_;refine zP ?_;refine zN (.int ((((m + 69090 * (t + 1) * (t + 1)).fmod 2147483629 * 40692).fmod 2147483647 * ((m + 69090 * (t + 1) * (t + 1)).fmod 2147483629 * 40692).fmod 2147483647 + 9091).fmod 2147483587)) ?_;refine zI ?_;refine zbR ?_;refine zI ?_;refine b_mod (by decide) ?_;refine zI ?_;refine b_div (by decide) (by decide) ?_;refine zN (.int below) ?_;refine b_mod (by exact fun hq => ln2 1200 71702721 69632561 [] [_] hq h0) ?_;exact in15 _ rfl (fmod_lo h0) (fmod_hi h0) kb2 ⟨⟨m, m0, m1, hd2⟩, ⟨cs, cl, hc2⟩, by exact ln1 4325514752561 67072561 [] [_] t0⟩
 ·refine ite_t (by simpa using hcs) ?_;obtain ⟨cs', x, rfl⟩ : ∃ cs' x, cs = cs' ++ [x] := ⟨cs.dropLast, cs.getLast hcs, (List.dropLast_concat_getLast hcs).symm⟩;rw [List.length_append, List.length_singleton] at cl;rw [List.map_append] at hc2;refine zsK ?_;refine zsN ?_;refine zM ?_;refine zX ?_;refine zN (.ref i) ?_;refine zS ?_;refine g_dict (r := .ref c) hd2 (by kernel_rfl) ?_;refine zmO hc2 ?_;refine l_nil ?_;refine m_pop hc2 (by rw [List.length_map]; simp [maxLen]; exact ln1 94470164801 5767578972246401 [_] [] cl) ?_;have hc3 := at_set (o' := .list (cs'.map .int)) hc2;have hd3 := at_set_ne (o' := .list (cs'.map Mine.D.int)) hic.symm hd2;have kb3 := kb2.set (o := .list (cs'.map Mine.D.int)) (i := c) (.inr rfl);generalize H2.set c (.list (cs'.map Mine.D.int)) = H3 at hc3 hd3 kb3;refine zsL (frWE2 (Mine.D.ref i) (Mine.D.int below) (Mine.D.int (m + 69090 * (t + 1) * (t + 1))) (Mine.D.int x)) ?_;refine zsK ?_;refine zsI ?_;refine ztC ?_;refine zN (.int x) ?_;refine zI ?_;refine k_ge ?_
  by_cases hx : x ≥ 1000000
  ·refine ite_t (by simpa using hx) ?_;refine zsK ?_;refine zsX ?_;refine zM ?_;refine zX ?_;refine zN (.ref i) ?_;refine zS ?_;refine g_dict (r := .ref c) hd3 (by kernel_rfl) ?_;refine zmO hc3 ?_;refine zlC ?_;refine zP ?_;refine zN (.int x) ?_;refine zN (.int below) ?_;refine b_div h0 (by omega) ?_;refine l_nil ?_;refine m_append hc3 (by refine lm ?_; exact ln1 90374164801 5767578972246401 [_] [] cl) ?_;have hc4 := at_set (o' := .list (cs'.map Mine.D.int ++ [.int (x.fdiv below)])) hc3;have hd4 := at_set_ne (o' := .list (cs'.map Mine.D.int ++ [.int (x.fdiv below)])) hic.symm hd3;have kb4 := kb3.set (o := .list (cs'.map Mine.D.int ++ [.int (x.fdiv below)])) (i := c) (.inr rfl);generalize H3.set c (.list (cs'.map Mine.D.int ++ [.int (x.fdiv below)])) = H4 at hc4 hd4 kb4;refine zsK ?_;refine zsR ?_;refine zP ?_;refine zN (.int x) ?_;refine zN (.int below) ?_;refine b_mod (by exact fun hq => ln2 1200 71702721 69632561 [] [_] hq h0) ?_;exact in15 _ rfl (fmod_lo h0) (fmod_hi h0) kb4 ⟨⟨m, m0, m1, hd4⟩, ⟨cs' ++ [x.fdiv below], by simp; exact ln1 90118356801 5767578972246401 [_] [] cl, by rw [List.map_append]; exact hc4⟩, by exact ln1 4325514752561 67072561 [] [_] t0⟩
  ·refine ite_f (by simpa using hx) ?_;refine s_nil ?_;refine zsK ?_;refine zsN ?_;refine zP ?_;refine zN (.int (m + 69090 * (t + 1) * (t + 1))) ?_;refine zP ?_;refine zN (.int x) ?_;refine zI ?_;refine b_mod (by decide) ?_;refine b_add ?_;refine zsL (frWE2 (Mine.D.ref i) (Mine.D.int below) (Mine.D.int (m + 69090 * (t + 1) * (t + 1) + x.fmod 2147483563)) (Mine.D.int x)) ?_;refine s_nil ?_;refine zsK ?_;refine zsN ?_;refine zP ?_;refine zP ?_;refine zP ?_;refine zN (.int (m + 69090 * (t + 1) * (t + 1) + x.fmod 2147483563)) ?_;refine zI ?_;refine b_mod (by decide) ?_;refine zI ?_;refine zbR ?_;refine zI ?_;refine b_mod (by decide) ?_;refine zsL (frWE2 (Mine.D.ref i) (Mine.D.int below) (Mine.D.int (((m + 69090 * (t + 1) * (t + 1) + x.fmod 2147483563).fmod 2147483629 * 40692).fmod 2147483647)) (Mine.D.int x)) ?_;refine zsK ?_;refine zsN ?_;refine zP ?_;refine zP ?_;refine zP ?_;refine zN (.int (((m + 69090 * (t + 1) * (t + 1) + x.fmod 2147483563).fmod 2147483629 * 40692).fmod 2147483647)) ?_;refine zN (.int (((m + 69090 * (t + 1) * (t + 1) + x.fmod 2147483563).fmod 2147483629 * 40692).fmod 2147483647)) ?_;refine b_mulr (small_mod (by decide) (by decide)) ?_;refine zI ?_;refine b_add ?_;refine zI ?_;refine b_mod (by decide) ?_;refine zsL (frWE2 (Mine.D.ref i) (Mine.D.int below) (Mine.D.int ((((m + 69090 * (t + 1) * (t + 1) + x.fmod 2147483563).fmod 2147483629 * 40692).fmod 2147483647 * ((m + 69090 * (t + 1) * (t + 1) + x.fmod 2147483563).fmod 2147483629 * 40692).fmod 2147483647 + 9091).fmod 2147483587)) (Mine.D.int x)) ?_;refine zsK ?_;refine zsR ?_;refine zP ?_;refine zP ?_;refine zP ?_;refine zP ?_;refine zN (.int ((((m + 69090 * (t + 1) * (t + 1) + x.fmod 2147483563).fmod 2147483629 * 40692).fmod 2147483647 * ((m + 69090 * (t + 1) * (t + 1) + x.fmod 2147483563).fmod 2147483629 * 40692).fmod 2147483647 + 9091).fmod 2147483587)) ?_;refine zI ?_;refine zbR ?_;refine zI ?_;refine b_mod (by decide) ?_;refine zI ?_;refine b_div (by decide) (by decide) ?_;refine zN (.int below) ?_;refine b_mod (by exact fun hq => ln2 1200 71702721 69632561 [] [_] hq h0) ?_;exact in15 _ rfl (fmod_lo h0) (fmod_hi h0) kb3 ⟨⟨m, m0, m1, hd3⟩, ⟨cs', by exact ln1 90118420801 5767578972246401 [_] [] cl, hc3⟩, by exact ln1 4325514752561 67072561 [] [_] t0⟩
end Mine
end

-- WF
section
namespace Mine
abbrev po_deck_spec (H : AH) : D → AH → Prop := fun d H' => ∃ i c, d = .ref i ∧ Keep H H' ∧ Deck H' i c 0 ∧ H.length ≤ i ∧ H.length ≤ c
noncomputable def frWF0 (x0 : D) : Loc := [("script", some x0), ("cell", none), ("cells", none), ("mixed", none)]
noncomputable def frWF1 (x0 : D) : Loc := [(".0", none), ("cell", none), ("script", some x0), ("cell", none), ("cells", none), ("mixed", none)]
noncomputable def frWF2 (x0 : Option D) (x1 : D) : Loc := [(".0", none), ("cell", x0), ("script", some x1), ("cell", none), ("cells", none), ("mixed", none)]
noncomputable abbrev ivWF0 (ns : List Int) (H1 : AH) (xs : List Int) : List D → List D → Loc → AH → Prop := fun zr0 zr1 zl zh => ∃ zv0, zl = (frWF2 zv0 (D.fl (List.map D.int ns)) : Loc) ∧ (fun _ r acc H2 => H2 = H1 ∧ (∃ ys : List Int, acc = ys.map .int ∧ ys.length + r.length = xs.length) ∧ ∃ zs : List Int, r = zs.map .int) zv0 zr0 zr1 zh
noncomputable def frWF3 (x0 x1 : D) : Loc := [(".0", none), ("cell", some x0), ("script", some x1), ("cell", none), ("cells", none), ("mixed", none)]
noncomputable def frWF4 (x0 x1 : D) : Loc := [("script", some x0), ("cell", none), ("cells", some x1), ("mixed", some (.int 9090))]
noncomputable def frWF5 (x0 : D) (x1 : Option D) (x2 : D) (x3 : Option D) : Loc := [("script", some x0), ("cell", x1), ("cells", some x2), ("mixed", x3)]
noncomputable abbrev ivWF1 (ns : List Int) (a : Nat) (H3 : AH) : List D → Loc → AH → Prop := fun zr0 zl zh => ∃ zv0 zv1, zl = (frWF5 (D.fl (List.map D.int ns)) zv1 (D.ref a) zv0 : Loc) ∧ (fun m _ r H => H = H3 ∧ (∃ x : Int, m = some (.int x) ∧ 0 ≤ x ∧ x < 2147483587) ∧ ∃ zs : List Int, r = zs.map .int) zv0 zv1 zr0 zh
noncomputable def frWF6 (x0 x1 x2 x3 : D) : Loc := [("script", some x0), ("cell", some x1), ("cells", some x2), ("mixed", some x3)]
theorem deck_spec {n : Nat} {ns : List Int} {H : AH} (hn : ns.length ≤ 63) :
  Rx ((ev ge (n + 30)).cl (.fn 265) [.fl (ns.map .int)] H) (po_deck_spec H) := by
 refine zcF (frWF0 (D.fl (List.map D.int ns))) ?_;refine zsK ?_;refine zsT ?_;refine zT ?_;refine zlC ?_;refine zY (frWF1 (D.fl (List.map D.int ns))) ?_;refine zZ ?_;refine zN (.fl (List.map D.int ns)) ?_;refine o_none ?_;refine o_some ?_;refine zI ?_;refine o_none ?_;refine sl_fl rfl rfl rfl (by refine lm ?_; exact ln1 90374164801 90116052801 [_] [] hn) (rs := (ns.take 24).map .int) (by simp [cut, List.map_take]) (by rw [List.length_map, List.length_take]; exact ln1 90374164801 57878401 [_] [] (Nat.min_le_left _ _)) ?_;intro j H1 k1 h1 lj
 have l1 : (ns.take 24).length ≤ 24 := by rw [List.length_take]; exact ln1 57878401 57878401 [_] [] (Nat.min_le_left _ _)
 generalize ns.take 24 = xs at *;refine in23 _ _ (src_ref h1) (by refine lm ?_; exact ln1 90374164801 57878401 [_] [] l1) ?_;refine zcp (ivWF0 ns H1 xs) ?_ ?_ ?_
 ·intro d r acc _ _ zi1;refine el14 zi1 fun v zr2 zr3 zq4 zq5 => ?_;clear zi1;subst zr2;subst zr3;refine el12 zq4 fun ys zr6 hl => ?_;clear zq4;subst zr6;refine el11 zq5 fun zs hz => ?_;clear zq5
  obtain ⟨z, zs', rfl, rfl, rfl⟩ : ∃ z zs', zs = z :: zs' ∧ d = .int z ∧ r = zs'.map .int := by
   cases zs with
   | nil => cases hz
   | cons z zs' => cases hz; exact ⟨z, zs', rfl, rfl, rfl⟩
  refine zc0 ?_;refine zbT (frWF3 (D.int z) (D.fl (List.map D.int ns))) ?_;refine zP ?_;refine zN (.int z) ?_;refine zP ?_;refine zI ?_;refine zI ?_;refine b_pow (by kernel_rfl) ?_;refine b_mod (by decide) ?_;exact ⟨still_ref h1, _, rfl, rfl, ⟨ys ++ [z.fmod (10 ^ (40 : Int).toNat)], by simp, by simp at hl ⊢; exact Nat.le_antisymm (ln1 144572559446401 157681257857601 [_,_,_] [] hl) (ln1 146810473857601 163907177859241 [_,_,_] [] hl)⟩, zs', rfl⟩
 ·intro rs l H2 zi1;refine el14 zi1 fun v zr2 zr3 zq4 zq5 => ?_;clear zi1;subst zr2;subst zr3;refine el12 zq4 fun ys hys hl => ?_;clear zq4;refine el11 zq5 fun zs hz => ?_;clear zq5
  have e : rs = ys.map .int := by simpa using hys
  subst e
  have hz2 : zs = [] := by simpa using hz.symm
  refine ⟨by rw [List.length_map]; simp [maxLen]; simp at hl; exact ln2 90374164801 57878441 1537601 [_,_] [] l1 hl, ?_⟩
  have hl2 : ys.length ≤ 24 := by simp at hl; exact ln2 57878401 57878441 1537601 [_,_] [] l1 hl
  intro a H3 kk h2 la;have k2 := k1.trans kk;have j2 := k1.len;refine zlC ?_;refine zI ?_;refine l_nil ?_;refine zbT (frWF4 (D.fl (List.map D.int ns)) (D.ref a)) ?_;refine zsK ?_;refine zsF ?_;refine zN (.ref a) ?_;refine in23 _ _ (src_ref h2) (by refine lm ?_; exact ln1 90374164801 57878401 [_] [] hl2) ?_;refine zlp (ivWF1 ns a H3) ?_ ?_ ?_
  ·intro d r _ _ zi1;refine el24 zi1 fun O v zr2 zr3 zq4 zq5 => ?_;clear zi1;subst zr2;subst zr3;refine el13 zq4 fun x zr6 x0 x1 => ?_;clear zq4;subst zr6;refine el11 zq5 fun zs hz => ?_;clear zq5
   obtain ⟨z, zs', rfl, rfl, rfl⟩ : ∃ z zs', zs = z :: zs' ∧ d = .int z ∧ r = zs'.map .int := by
    cases zs with
    | nil => cases hz
    | cons z zs' => cases hz; exact ⟨z, zs', rfl, rfl, rfl⟩
   refine l_step ?_;refine zbT (frWF6 (D.fl (List.map D.int ns)) (D.int z) (D.ref a) (D.int x)) ?_;refine zsK ?_;refine zsN ?_;refine zP ?_;refine zP ?_;refine zP ?_;refine zP ?_;refine zN (.int x) ?_;refine zI ?_;refine zbR ?_;refine zP ?_;refine zN (.int z) ?_;refine zI ?_;refine b_mod (by decide) ?_;refine b_add ?_;refine zI ?_;refine b_add ?_;refine zI ?_;refine b_mod (by decide) ?_;refine zsL (frWF6 (D.fl (List.map D.int ns)) (D.int z) (D.ref a) (D.int ((x * 48271 + z.fmod 2147483629 + 9090).fmod 2147483587))) ?_;refine s_nil ?_;exact ⟨still_ref h2, _, _, rfl, rfl, ⟨_, rfl, fmod_lo (by decide), fmod_hi (by decide)⟩, zs', rfl⟩
  ·intro l H zi1;refine el24 zi1 fun O v zr2 zr3 zq4 zq5 => ?_;clear zi1;subst zr2;subst zr3;refine el13 zq4 fun x zr6 x0 x1 => ?_;clear zq4;subst zr6;refine el11 zq5 fun zs hz => ?_;clear zq5;refine zsK ?_;refine zsR ?_;refine zD ?_; simp only [List.zip_cons_cons, List.zip_nil_left, List.zip_nil_right];refine zpC ?_;refine zS ?_;refine ⟨_, rfl, ?_⟩;refine zZ ?_;refine zN (.ref a) ?_;refine o_none ?_;refine o_none ?_;refine o_some ?_;refine zU ?_;refine zI ?_;refine ⟨_, rfl, ?_⟩;refine sl_list h2 rfl rfl rfl (by refine lm ?_; exact ln1 90374164801 57878401 [_] [] hl2) (rs := ys.reverse.map .int) (by simp [cut, List.map_reverse]) (by rw [List.length_map, List.length_reverse]; exact ln1 90374164801 57878401 [_] [] hl2) ?_;intro b H5 kk5 h4 lb;have k4 := k2.trans kk5;have j4 := k2.len;refine zpC ?_;refine zS ?_;refine ⟨_, rfl, ?_⟩;refine zN (.int x) ?_;refine zpC ?_;refine zS ?_;refine ⟨_, rfl, ?_⟩;refine zI ?_;refine p_nil ?_;intro c5 H6 kk6 h6 lc;have h7 := k4.len;exact in25 _ b rfl (k4.trans kk6) ⟨⟨x, x0, x1, h6⟩, ⟨ys.reverse, by simp; exact ln1 90118420801 57878401 [_] [] hl2, kk6 _ _ h4⟩, Int.le_refl 0⟩ (Nat.le_trans h7 lc) (Nat.le_trans j4 lb)
  ·exact in24 _ _ rfl rfl ⟨9090, rfl, by decide, by decide⟩ ⟨ys, rfl⟩
 ·exact in14 _ rfl rfl ⟨[], rfl, by simp⟩ ⟨xs, rfl⟩
end Mine
end

-- WG
section
namespace Mine
abbrev po_half_spec (k : Nat) (H : AH) : D → AH → Prop := fun d H' => d = .int ((k : Int) - 1) ∧ H' = H
noncomputable def frWG0 (x0 x1 : D) : Loc := [("firsts", some x0), ("number", some x1), ("low", none), ("high", none), ("middle", none)]
noncomputable def frWG1 (x0 x1 : D) : Loc := [("firsts", some x0), ("number", some x1), ("low", some (.int 0)), ("high", none), ("middle", none)]
noncomputable def frWG2 (x0 x1 x2 : D) : Loc := [("firsts", some x0), ("number", some x1), ("low", some (.int 0)), ("high", some x2), ("middle", none)]
noncomputable def frWG3 (x0 x1 : D) (x2 x3 x4 : Option D) : Loc := [("firsts", some x0), ("number", some x1), ("low", x2), ("high", x3), ("middle", x4)]
noncomputable abbrev ivWG0 (i k : Nat) (l : List Int) (x : Int) (H : AH) : Nat → Loc → AH → Prop := fun zr0 zl zh => ∃ zv0 zv1 zv2, zl = (frWG3 (D.ref i) (D.int x) zv0 zv1 zv2 : Loc) ∧ (fun a b _ m H1 => H1 = H ∧ ∃ lo hi : Nat, a = some (.int lo) ∧ b = some (.int hi) ∧ lo ≤ k ∧ k ≤ hi ∧ hi ≤ l.length ∧ m = hi - lo) zv0 zv1 zv2 zr0 zh
noncomputable def frWG4 (x0 x1 x2 x3 x4 : D) : Loc := [("firsts", some x0), ("number", some x1), ("low", some x2), ("high", some x3), ("middle", some x4)]
theorem half_spec {n i k : Nat} {l : List Int} {x : Int} {H : AH} (h : H[i]? = some (.list (l.map .int))) (hl : l.length ≤ 90) (hk : k ≤ l.length)
  (h1 : ∀ (j : Nat) (y : Int), j < k → l[j]? = some y → y ≤ x) (h2 : ∀ (j : Nat) (y : Int), k ≤ j → l[j]? = some y → x < y) :
  Rx ((ev ge (n + 20)).cl (.fn 138) [.ref i, .int x] H) (po_half_spec k H) := by
 refine zcF (frWG0 (D.ref i) (D.int x)) ?_;refine zsK ?_;refine zsN ?_;refine zI ?_;refine zsL (frWG1 (D.ref i) (D.int x)) ?_;refine zsK ?_;refine zsN ?_;refine zK (.bi Bi.len) ?_;refine zlC ?_;refine zN (.ref i) ?_;refine l_nil ?_;refine c_bi ?_;refine w_len h (by refine lm ?_; exact ln1 90374164801 90117780801 [_] [] hl) ?_;refine zsL (frWG2 (D.ref i) (D.int x) (D.int (↑(List.map D.int l).length : Int))) ?_;refine zsK ?_;refine s_whl ?_;refine zwp (ivWG0 i k l x H) ?_ (m := (l.length)) ?_ ?_
 ·intro m _ _ zi1;refine el33 zi1 fun O O mid zr2 zr3 zq4 => ?_;clear zi1;subst zr2;subst zr3;refine el26 zq4 fun lo hi zr5 zr6 q1 q2 q3 zr7 => ?_;clear zq4;subst zr5;subst zr6;subst zr7;refine ztC ?_;refine zN (.int (↑lo : Int)) ?_;refine zN (.int (↑hi : Int)) ?_;refine k_lt ?_
  by_cases hlt : lo < hi
  ·refine ite_t (by simpa using hlt) ?_;refine zsK ?_;refine zsN ?_;refine zP ?_;refine zP ?_;refine zN (.int (↑lo : Int)) ?_;refine zN (.int (↑hi : Int)) ?_;refine b_add ?_;refine zI ?_;refine b_div (by decide) (by decide) ?_;refine zsL (frWG4 (D.ref i) (D.int x) (D.int (↑lo : Int)) (D.int (↑hi : Int)) (D.int (((↑lo : Int) + (↑hi : Int)).fdiv 2))) ?_;refine zsK ?_;refine zsI ?_;refine ztC ?_;refine zX ?_;refine zN (.ref i) ?_;refine zN (.int (((↑lo : Int) + (↑hi : Int)).fdiv 2)) ?_
   have hmid : ((lo : Int) + (hi : Int)).fdiv 2 = (((lo + hi) / 2 : Nat) : Int) := by
    rw [Int.fdiv_eq_ediv_of_nonneg _ (by decide)]; push_cast; rfl
   rw [hmid];generalize hM : (lo + hi) / 2 = M
   have m1 : lo ≤ M := by omega
   have m2 : M < hi := by omega
   have hy : l[M]? = some l[M] := List.getElem?_eq_getElem (by exact ln2 1473601 1409681 1475201 [_,_,_] [] q3 m2);refine g_list (r := .int l[M]) h (by refine lm ?_; exact ln1 90374164801 90117780801 [_] [] hl) (nth_nat (by rw [List.getElem?_map, hy]; rfl)) ?_;refine zN (.int x) ?_;refine k_le ?_
   by_cases hc : l[M] ≤ x
   ·refine ite_t (by simpa using hc) ?_;refine zsK ?_;refine zsN ?_;refine zP ?_;refine zN (.int (↑M : Int)) ?_;refine zI ?_;refine b_add ?_;refine zsL (frWG4 (D.ref i) (D.int x) (D.int ((↑M : Int) + 1)) (D.int (↑hi : Int)) (D.int (↑M : Int))) ?_;refine s_nil ?_;refine s_nil ?_
    have : M < k := by
     rcases Nat.lt_or_ge M k with h | h
     ·exact h
     ·have := h2 M _ h hy; exact ln2 1473600 1678721 1741161 [_,_] [_,_] hc this
    exact in12 (hi - (M + 1)) (by exact ln3 1473601 2568707241 157845097862401 1414481 [_,_,_,_,_] [] (Nat.sub_add_cancel (ln1 1409601 1473601 [_,_] [] hlt)) (Nat.sub_add_cancel (ln1 90255446401 1473601 [_,_] [] m2)) m1) ⟨_, _, _, rfl, rfl, M + 1, hi, by push_cast; rfl, rfl, by exact ln1 90255446401 1473601 [_,_] [] this, by with_reducible assumption, by with_reducible assumption, rfl⟩
   ·refine ite_f (by simpa using hc) ?_;refine zsK ?_;refine zsN ?_;refine zN (.int (↑M : Int)) ?_;refine zsL (frWG4 (D.ref i) (D.int x) (D.int (↑lo : Int)) (D.int (↑M : Int)) (D.int (↑M : Int))) ?_;refine s_nil ?_;refine s_nil ?_
    have : k ≤ M := by
     rcases Nat.lt_or_ge M k with h | h
     ·exact absurd (h1 M _ h hy) hc
     ·exact h
    exact in12 (M - lo) (by exact ln3 1473601 2568707241 2468867201 1476961 [_,_,_,_,_] [] (Nat.sub_add_cancel (ln1 1409601 1473601 [_,_] [] hlt)) (Nat.sub_add_cancel (ln1 1409601 1409601 [_,_] [] m1)) m2) ⟨_, _, _, rfl, rfl, lo, M, rfl, rfl, by with_reducible assumption, by with_reducible assumption, by exact ln2 1409601 1409681 1475201 [_,_,_] [] q3 m2, rfl⟩
  ·refine ite_f (by simpa using hlt) ?_;refine zsK ?_;refine zsR ?_;refine zP ?_;refine zN (.int (↑lo : Int)) ?_;refine zI ?_;refine b_sub ?_
   have : lo = k := by exact Nat.le_antisymm (ln1 1409601 1409601 [_,_] [] q1) (ln2 1409601 1411201 1409681 [_,_,_] [] q2 (Nat.le_of_not_lt hlt))
   subst this;exact ⟨rfl, rfl⟩
 ·show l.length < 100
  exact ln1 94214420801 90117780801 [_] [] hl
 ·exact in33 _ _ _ rfl rfl ⟨0, l.length, rfl, by rw [List.length_map], by exact ln0 56320561 [_] [], by with_reducible assumption, by exact ln0 1408001 [_] [], by exact Nat.le_antisymm (ln1 1409601 102440982441 [_,_] [] (Nat.sub_add_cancel (ln0 56320561 [_] []))) (ln1 1409601 98447382401 [_,_] [] (Nat.sub_add_cancel (ln0 56320561 [_] [])))⟩
end Mine
end

-- WH
section
namespace Mine
theorem k_eq {H : AH} {a b : D} {t : Bool} {R : Bool → Prop} (h : isEq H a b = some t) (q : R t) : ∃ t, cmp H .Eq a b = some t ∧ R t := ⟨t, h, q⟩
theorem k_ne {H : AH} {a b : D} {t : Bool} {R : Bool → Prop} (h : isEq H a b = some t) (q : R (!t)) : ∃ t, cmp H .NotEq a b = some t ∧ R t := ⟨!t, by show (isEq H a b).map _ = _; rw [h]; rfl, q⟩
abbrev po_like_spec (H : AH) : D → AH → Prop := fun d H' => d = .bool false ∧ H' = H
noncomputable def frWH0 (x0 x1 : Mine.D) : Loc := [("one", some x0), ("other", some x1)]
theorem like_spec {n : Nat} {a b : D} {H : AH} (h : isEq H a b = some false) : Rx ((ev ge (n + 12)).cl (.fn 145) [a, b] H) (po_like_spec H) := by
 refine zcF (frWH0 a b) ?_;refine zsK ?_;refine zsR ?_;refine zA ?_;refine zC ?_;refine zN a ?_;refine zN b ?_;refine k_eq h ?_;refine k_truth ?_;refine ite_no ?_;exact ⟨rfl, rfl⟩
abbrev po_half_app (A : List Int) (H : AH) : D → AH → Prop := fun d H' => d = .int ((A.length : Int) - 1) ∧ H' = H
theorem half_app {n i : Nat} {A B : List Int} {x : Int} {H : AH} (h : H[i]? = some (.list ((A ++ B).map .int))) (hl : (A ++ B).length ≤ 90) (hA : ∀ y ∈ A, y ≤ x) (hB : ∀ y ∈ B, x < y) :
  Rx ((ev ge (n + 20)).cl (.fn 138) [.ref i, .int x] H) (po_half_app A H) := by
 refine half_spec h hl (by simp) (fun j y hj hy => hA y ?_) fun j y hj hy => hB y ?_
 ·rw [List.getElem?_append_left hj] at hy; exact List.mem_of_getElem? hy
 ·rw [List.getElem?_append_right hj] at hy; exact List.mem_of_getElem? hy
noncomputable def stF (L : List (Int × D)) : List Int := L.flatMap fun p => [p.1, p.1 + 1]
noncomputable def vaF (z : D) (L : List (Int × D)) : List D := L.flatMap fun p => [p.2, z]
theorem stF_len (L : List (Int × D)) : (stF L).length = 2 * L.length := by
 induction L with
 | nil => rfl
 | cons p L ih => unfold stF at *; rw [List.flatMap_cons, List.length_append, ih]; simp; exact Nat.le_antisymm (ln0 24169951108100341766019761 [_] []) (ln0 24065239616680820874243761 [_] [])
theorem vaF_len (z : D) (L : List (Int × D)) : (vaF z L).length = 2 * L.length := by
 induction L with
 | nil => rfl
 | cons p L ih => unfold vaF at *; rw [List.flatMap_cons, List.length_append, ih]; simp; exact Nat.le_antisymm (ln0 24169951108100341766019761 [_] []) (ln0 24065239616680820874243761 [_] [])
theorem stF_app (L M : List (Int × D)) : stF (L ++ M) = stF L ++ stF M := List.flatMap_append ..
theorem vaF_app (z : D) (L M : List (Int × D)) : vaF z (L ++ M) = vaF z L ++ vaF z M := List.flatMap_append ..
theorem mem_stF {L : List (Int × D)} {y : Int} (h : y ∈ stF L) : ∃ p ∈ L, y = p.1 ∨ y = p.1 + 1 := by
 unfold stF at h;refine el12 (List.mem_flatMap.mp h) fun p hp hy => ?_;exact in12 p hp (by simpa using hy)
noncomputable abbrev rmD (z : D) (s v : Nat) : List (Str × D) := [(("default" : Str), z), (("starts" : Str), .ref s), (("values" : Str), .ref v)]
structure RMap (H : AH) (r j : Nat) (z : D) (L : List (Int × D)) : Prop where
 inst : H[r]? = some (.inst 190 j)
 dict : ∃ s v, H[j]? = some (.dict (rmD z s v)) ∧ H[s]? = some (.list ((0 :: stF L).map .int)) ∧ H[v]? = some (.list (z :: vaF z L))
 len : L.length ≤ 20
theorem RMap.keep {H H' : AH} {r j : Nat} {z : D} {L : List (Int × D)} (M : RMap H r j z L) (k : Keep H H') : RMap H' r j z L :=
 ⟨k _ _ M.inst, let ⟨s, v, a, b, c⟩ := M.dict; ⟨s, v, k _ _ a, k _ _ b, k _ _ c⟩, M.len⟩
theorem at_attr {H : AH} {r j : Nat} {C : Addr} {c : Cl} {es : List (Str × D)} {a : Str} {d : D} {R : D → Prop} (h1 : H[r]? = some (.inst C j)) (h2 : H[j]? = some (.dict es)) (hc : ge.cls C = some c) (ha : c.attrs.contains a = true) (hl : es.lookup a = some d) (q : R d) :
  ∃ d, attrOf ge H (.ref r) a = some d ∧ R d :=
 ⟨d, by unfold attrOf; dsimp only; rw [h1]; dsimp only; rw [hc, dictAt_of' h2]; dsimp only; rw [if_pos ha]; exact hl, q⟩
theorem set_attr {H : AH} {r j : Nat} {C : Addr} {c : Cl} {es : List (Str × D)} (es' : List (Str × D)) {a : Str} {d : D} {R : AH → Prop} (h1 : H[r]? = some (.inst C j)) (h2 : H[j]? = some (.dict es)) (hc : ge.cls C = some c) (ha : c.attrs.contains a = true) (hz : es.length ≤ 900) (hp : putE es a d = es') (q : R (H.set j (.dict es'))) :
  ∃ H', setAttr ge H (.ref r) a d = some H' ∧ R H' :=
 ⟨_, by unfold setAttr; dsimp only; rw [h1]; dsimp only; rw [hc, dictAt_of' h2]; dsimp only; rw [if_pos (by rw [ha]; simpa using hz), hp], q⟩
abbrev po_rm_get1 (v : D) (H : AH) : D → AH → Prop := fun d H' => d = v ∧ H' = H
noncomputable def frWH1 (x0 x1 : Mine.D) : Loc := [("self", some x0), ("code", some x1)]
theorem rm_get1 {n r j : Nat} {z : D} {A B : List (Int × D)} {x : Int} {v : D} {H : AH} (M : RMap H r j z (A ++ (x, v) :: B)) (h0 : 0 ≤ x) (hA : ∀ p ∈ A, p.1 + 1 < x) (hB : ∀ p ∈ B, x + 1 < p.1) :
  Rx ((ev ge (n + 26)).cl (.fn 166) [.ref r, .int x] H) (po_rm_get1 v H) := by
 refine el23 (M.dict) fun s w hd hs hv => ?_;have hlen := M.len;rw [List.length_append, List.length_cons] at hlen;refine zcF (frWH1 (Mine.D.ref r) (Mine.D.int x)) ?_;refine zsK ?_;refine zsR ?_;refine zX ?_;refine zG ?_;refine zN (.ref r) ?_;refine at_attr (d := .ref w) M.inst hd rfl (by kernel_rfl) (by kernel_rfl) ?_;refine zK (.fn 138) ?_;refine zlC ?_;refine zG ?_;refine zN (.ref r) ?_;refine at_attr (d := .ref s) M.inst hd rfl (by kernel_rfl) (by kernel_rfl) ?_;refine zlC ?_;refine zN (.int x) ?_;refine l_nil ?_
 have e : (0 :: stF (A ++ (x, v) :: B)) = (0 :: stF A ++ [x]) ++ (x + 1) :: stF B := by
  rw [stF_app]
  show 0 :: (stF A ++ (x :: (x + 1) :: stF B)) = _
  simp
 rw [e] at hs;refine (half_app (n := n + 2) hs (by simp [stF_len]; exact ln1 2419079057898964688437421516803761 5900600937857602 [_,_] [] hlen) (fun y hy => ?_) fun y hy => ?_).mono ?_
 ·rcases List.mem_cons.mp (show y ∈ 0 :: (stF A ++ [x]) from hy) with rfl | hy
  ·exact h0
  ·rcases List.mem_append.mp hy with hy | hy
   ·refine el12 (mem_stF hy) fun p hp hy => ?_;have := hA p hp
    omega
   ·rw [List.mem_singleton.mp hy]; exact Int.le_refl _
 ·rcases List.mem_cons.mp hy with rfl | hy
  ·exact ln0 112233869121 [] [_]
  ·refine el12 (mem_stF hy) fun p hp hy => ?_;have := hB p hp
   omega
 ·intro d H' zi1;refine el02 zi1 fun zr2 zr3 => ?_;clear zi1;subst zr2;subst zr3;refine g_list (r := v) hv (by simp [vaF_len, maxLen]; exact ln1 592275712353244572163761 5900600937857602 [_,_] [] hlen) ?_ ?_
  ·have e2 : (((0 :: stF A ++ [x]).length : Int) - 1) = ((2 * A.length + 1 : Nat) : Int) := by simp [stF_len]
   rw [e2];refine nth_nat ?_;rw [vaF_app]
   show (z :: (vaF z A ++ (v :: z :: vaF z B)))[2 * A.length + 1]? = some v
   rw [List.getElem?_cons_succ, List.getElem?_append_right (by rw [vaF_len]; exact ln0 5898249676803761 [_] []), vaF_len, Nat.sub_self]
   rfl
  ·skip;exact ⟨rfl, rfl⟩
abbrev po_rm_get0 (z : D) (H : AH) : D → AH → Prop := fun d H' => d = z ∧ H' = H
theorem rm_get0 {n r j : Nat} {z : D} {A B : List (Int × D)} {x : Int} {H : AH} (M : RMap H r j z (A ++ B)) (h0 : 0 ≤ x) (hA : ∀ p ∈ A, p.1 + 1 ≤ x) (hB : ∀ p ∈ B, x < p.1) :
  Rx ((ev ge (n + 26)).cl (.fn 166) [.ref r, .int x] H) (po_rm_get0 z H) := by
 refine el23 (M.dict) fun s w hd hs hv => ?_;have hlen := M.len;rw [List.length_append] at hlen;refine zcF (frWH1 (Mine.D.ref r) (Mine.D.int x)) ?_;refine zsK ?_;refine zsR ?_;refine zX ?_;refine zG ?_;refine zN (.ref r) ?_;refine at_attr (d := .ref w) M.inst hd rfl (by kernel_rfl) (by kernel_rfl) ?_;refine zK (.fn 138) ?_;refine zlC ?_;refine zG ?_;refine zN (.ref r) ?_;refine at_attr (d := .ref s) M.inst hd rfl (by kernel_rfl) (by kernel_rfl) ?_;refine zlC ?_;refine zN (.int x) ?_;refine l_nil ?_
 have e : (0 :: stF (A ++ B)) = (0 :: stF A) ++ stF B := by rw [stF_app]; rfl
 rw [e] at hs;refine (half_app (n := n + 2) hs (by simp [stF_len]; exact ln1 590595473146029516803761 92196865602 [_,_] [] hlen) (fun y hy => ?_) fun y hy => ?_).mono ?_
 ·rcases List.mem_cons.mp hy with rfl | hy
  ·exact h0
  ·refine el12 (mem_stF hy) fun p hp hy => ?_;have := hA p hp
   omega
 ·refine el12 (mem_stF hy) fun p hp hy => ?_;have := hB p hp
  omega
 ·intro d H' zi1;refine el02 zi1 fun zr2 zr3 => ?_;clear zi1;subst zr2;subst zr3;refine g_list (r := z) hv (by simp [vaF_len, maxLen]; exact ln1 9254308005480963761 92196865602 [_,_] [] hlen) ?_ ?_
  ·have e2 : (((0 :: stF A).length : Int) - 1) = ((2 * A.length : Nat) : Int) := by simp [stF_len]
   rw [e2];refine nth_nat ?_;rw [vaF_app]
   have : ∀ A : List (Int × D), (z :: (vaF z A ++ vaF z B))[2 * A.length]? = some z := by
    intro A
    induction A with
    | nil => rfl
    | cons p A ih =>
     show (z :: p.2 :: z :: (vaF z A ++ vaF z B))[2 * (A.length + 1)]? = some z
     rw [show 2 * (A.length + 1) = 2 * A.length + 1 + 1 by exact Nat.le_antisymm (ln0 1539374691355984491380874243761 [_] []) (ln0 1546876870918416986281420803761 [_] []), List.getElem?_cons_succ, List.getElem?_cons_succ];exact ih
   exact this A
  ·skip;exact ⟨rfl, rfl⟩
end Mine
end

-- WI
section
namespace Mine
theorem Rx.same {r : Option (D × AH)} {a : D} {H : AH} {Q : D → AH → Prop} (h : Rx r fun d H' => d = a ∧ H' = H) (q : Q a H) : Rx r Q := by
 refine el23 h fun d H' e zr1 zr2 => ?_;clear h;subst zr1;subst zr2;exact in22 _ _ e q
abbrev po_like_any (H : AH) : D → AH → Prop := fun d H' => d = .bool false ∧ H' = H
theorem like_any {m : Nat} {a b : D} {H : AH} (hm : 12 ≤ m) (h : isEq H a b = some false) : Rx ((ev ge m).cl (.fn 145) [a, b] H) (po_like_any H) := by
 obtain ⟨n, rfl⟩ : ∃ n, m = n + 12 := ⟨m - 12, by exact Nat.le_antisymm (ln1 91782017601 102441750441 [_,_] [] (Nat.sub_add_cancel (ln1 56339761 56339761 [_] [] hm))) (ln1 90256150401 98448150401 [_,_] [] (Nat.sub_add_cancel (ln1 56339761 56339761 [_] [] hm)))⟩;exact like_spec h
abbrev po_half_any (A : List Int) (H : AH) : D → AH → Prop := fun d H' => d = .int ((A.length : Int) - 1) ∧ H' = H
theorem b_lists {H : AH} {i j : Nat} {xs ys : List D} {Q : D → AH → Prop} (h1 : H[i]? = some (.list xs)) (h2 : H[j]? = some (.list ys)) (hl : (xs ++ ys).length ≤ maxLen) (q : New H (.list (xs ++ ys)) Q) : Rx (binop H .Add (.ref i) (.ref j)) Q :=
 ⟨_, _, by unfold binop; dsimp only; rw [listAt_of h1, listAt_of h2]; dsimp only; unfold newL alloc; rw [if_pos hl], New.at q⟩
theorem cut_take (xs ys : List D) {k : Nat} (h : xs.length = k) : cut (xs ++ ys) none (some (k : Int)) none = some xs := by
 subst h;simp [cut]
theorem cut_drop (xs ys : List D) {k : Nat} (h : xs.length = k) : cut (xs ++ ys) (some (k : Int)) none none = some ys := by
 subst h
 have : ((xs.length : Int) + (ys.length : Int)).toNat = (xs ++ ys).length := by simp; exact Nat.le_antisymm (ln1 2293889601 186200317534401 [_,_,_] [] (Int.toNat_of_nonneg (ln0 173093015040561 [_,_] []))) (ln1 2258945601 192753815070481 [_,_,_] [] (Int.toNat_of_nonneg (ln0 173093015040561 [_,_] [])))
 simp only [cut, Option.getD_some, Option.getD_none, List.length_append, Int.natCast_add, Int.natCast_nonneg, this, List.take_length, Int.toNat_natCast, List.drop_left];rw [if_pos (by simp; exact ln0 173093015040561 [_,_] []), ← List.length_append, List.take_length, List.drop_left]
abbrev po_rm_put (r j : Nat) (z : D) (A B : List (Int × D)) (x : Int) (v : D) (H : AH) : D → AH → Prop := fun d H' => d = .none ∧ RMap H' r j z (A ++ (x, v) :: B) ∧ KeepBut (· = j) H H'
noncomputable def frWI0 (x0 x1 x2 x3 : D) : Loc := [("self", some x0), ("first", some x1), ("last", some x2), ("value", some x3), ("low", none), ("high", none), ("behind", none), ("starts", none), ("values", none)]
noncomputable def frWI1 (x0 x1 x2 x3 x4 : D) : Loc := [("self", some x0), ("first", some x1), ("last", some x2), ("value", some x3), ("low", some x4), ("high", none), ("behind", none), ("starts", none), ("values", none)]
noncomputable def frWI2 (x0 x1 x2 x3 x4 x5 : D) : Loc := [("self", some x0), ("first", some x1), ("last", some x2), ("value", some x3), ("low", some x4), ("high", some x5), ("behind", none), ("starts", none), ("values", none)]
noncomputable def frWI3 (x0 x1 x2 x3 x4 x5 x6 : D) : Loc := [("self", some x0), ("first", some x1), ("last", some x2), ("value", some x3), ("low", some x4), ("high", some x5), ("behind", some x6), ("starts", none), ("values", none)]
noncomputable def frWI4 (x0 x1 x2 x3 x4 x5 x6 x7 x8 : D) : Loc := [("self", some x0), ("first", some x1), ("last", some x2), ("value", some x3), ("low", some x4), ("high", some x5), ("behind", some x6), ("starts", some x7), ("values", some x8)]
set_option tactic.hygienic true in
theorem rm_put {n r j : Nat} {z : D} {A B : List (Int × D)} {x : Int} {v : D} {H : AH} (M : RMap H r j z (A ++ B)) (h0 : 0 < x) (h1 : x < 1114111) (hA : ∀ p ∈ A, p.1 + 1 < x) (hB : ∀ p ∈ B, x + 1 < p.1) (hz : (A ++ B).length < 20) (hne : ∀ H, isEq H z v = some false) :
  Rx ((ev ge (n + 40)).cl (.fn 173) [.ref r, .int x, .int x, v] H) (po_rm_put r j z A B x v H) := by
 refine el23 (M.dict) fun s w hd hs hv => ?_;have hr := M.inst;rw [List.length_append] at hz
 have hrj : r ≠ j := by rintro rfl; rw [hr] at hd; cases hd
 have hsj : s ≠ j := by rintro rfl; rw [hs] at hd; cases hd
 have hwj : w ≠ j := by rintro rfl; rw [hv] at hd; cases hd
 have e : (0 :: stF (A ++ B)) = (0 :: stF A) ++ stF B := by rw [stF_app]; rfl
 rw [e] at hs;have lA := stF_len A;have lB := stF_len B;have vA := vaF_len z A;have vB := vaF_len z B;refine zcF (frWI0 (D.ref r) (D.int x) (D.int x) v) ?_;refine zsK ?_;refine zsI ?_;refine ztC ?_;refine zN (.int x) ?_;refine zN (.int x) ?_;refine k_gt ?_;refine ite_f (by simp) ?_;refine s_nil ?_;refine zsK ?_;refine zsN ?_;refine zP ?_;refine zK (.fn 138) ?_;refine zlC ?_;refine zG ?_;refine zN (.ref r) ?_;refine at_attr (d := .ref s) hr hd rfl (by kernel_rfl) (by kernel_rfl) ?_;refine zlC ?_;refine zP ?_;refine zN (.int x) ?_;refine zI ?_;refine b_sub ?_;refine l_nil ?_;refine (half_app (n := n + 16) hs (by simp; exact ln3 144188347905601 96292868882 100357270401 100359830441 [_,_,_,_] [] hz lA lB) (fun y hy => ?_) fun y hy => ?_).mono ?_
 ·rcases List.mem_cons.mp hy with rfl | hy
  ·exact ln1 4329610752561 69632561 [] [_] h0
  ·refine el12 (mem_stF hy) fun p hp hy => ?_;have := hA p hp
   omega
 ·refine el12 (mem_stF hy) fun p hp hy => ?_;have := hB p hp
  omega
 intro d H' zi1;refine el02 zi1 fun zr2 e1 => ?_;clear zi1;subst zr2;subst e1
 have elow : (((0 :: stF A).length : Int) - 1) + 1 = ((1 + 2 * A.length : Nat) : Int) := by simp; exact Int.le_antisymm (ln1 709013128439621225886401 100354710401 [_,_] [] lA) (ln1 708692452681396230018161 104448150441 [_,_] [] lA)
 refine zI ?_;refine b_add ?_;refine zsL (frWI1 (D.ref r) (D.int x) (D.int x) v (D.int ((↑(0 :: Mine.stF A).length : Int) - 1 + 1))) ?_;refine zsK ?_;refine zsN ?_;refine zP ?_;refine zK (.fn 138) ?_;refine zlC ?_;refine zG ?_;refine zN (.ref r) ?_;rw [elow];refine at_attr (d := .ref s) hr hd rfl (by kernel_rfl) (by kernel_rfl) ?_;refine zlC ?_;refine zP ?_;refine zN (.int x) ?_;refine zI ?_;refine b_add ?_;refine l_nil ?_;refine (half_app (n := n + 16) hs (by simp; exact ln3 144188347905601 96292868882 100357270401 100359830441 [_,_,_,_] [] hz lA lB) (fun y hy => ?_) fun y hy => ?_).mono ?_
 ·rcases List.mem_cons.mp hy with rfl | hy
  ·exact ln1 4325514752561 69632561 [] [_] h0
  ·refine el12 (mem_stF hy) fun p hp hy => ?_;have := hA p hp
   omega
 ·refine el12 (mem_stF hy) fun p hp hy => ?_;have := hB p hp
  omega
 intro d H' zi1;refine el02 zi1 fun zr2 e1 => ?_;clear zi1;subst zr2;subst e1;refine zI ?_;refine b_add ?_;refine zsL (frWI2 (D.ref r) (D.int x) (D.int x) v (D.int (↑(1 + 2 * A.length) : Int)) (D.int ((↑(0 :: Mine.stF A).length : Int) - 1 + 1))) ?_;refine zsK ?_;refine zsN ?_;refine zX ?_;refine zG ?_;refine zN (.ref r) ?_;rw [elow];refine at_attr (d := .ref w) hr hd rfl (by kernel_rfl) (by kernel_rfl) ?_;refine zP ?_;refine zN (.int (↑(1 + 2 * A.length) : Int)) ?_;refine zI ?_;refine b_sub ?_
 have hz0 : (z :: vaF z (A ++ B))[2 * A.length]? = some z := by
  rw [vaF_app]
  have : ∀ A : List (Int × D), (z :: (vaF z A ++ vaF z B))[2 * A.length]? = some z := by
   intro A
   induction A with
   | nil => rfl
   | cons p A ih =>
    show (z :: p.2 :: z :: (vaF z A ++ vaF z B))[2 * (A.length + 1)]? = some z
    rw [show 2 * (A.length + 1) = 2 * A.length + 1 + 1 by exact Nat.le_antisymm (ln0 1539374691355984491380874243761 [_] []) (ln0 1546876870918416986281420803761 [_] []), List.getElem?_cons_succ, List.getElem?_cons_succ];exact ih
  exact this A
 have eidx : ((1 + 2 * A.length : Nat) : Int) - 1 = ((2 * A.length : Nat) : Int) := by exact Int.le_antisymm (ln0 45505180085322903797766018161 [_] []) (ln0 45399266897691240261580803761 [_] [])
 rw [eidx]
 have lv : (z :: vaF z (A ++ B)).length ≤ maxLen := by rw [vaF_app]; simp [maxLen]; exact ln3 144598562305601 96292868882 100357270401 100359830441 [_,_,_,_] [] hz vA vB
 refine g_list (r := z) hv lv (nth_nat hz0) ?_;refine zsL (frWI3 (D.ref r) (D.int x) (D.int x) v (D.int (↑(1 + 2 * A.length) : Int)) (D.int (↑(1 + 2 * A.length) : Int)) z) ?_;refine zsK ?_;refine zsT ?_;refine zT ?_;refine zlC ?_;refine zL ?_;refine zlC ?_;refine zN (.int x) ?_;refine l_nil ?_;refine ⟨by simp [maxLen], ?_⟩;intro a H1 k1 ha hla;have na := lt_of_at hd;have na2 := lt_of_at hs;have na3 := lt_of_at hv;have na4 := lt_of_at hr;refine zlC ?_;refine zL ?_;refine zlC ?_;refine zN v ?_;refine l_nil ?_;refine ⟨by simp [maxLen], ?_⟩;intro b H2 kk2 hb hlb;have k2 := k1.trans kk2;have ha2 := kk2 _ _ ha;have lb := lt_of_at ha;refine l_nil ?_;refine zbT (frWI4 (D.ref r) (D.int x) (D.int x) v (D.int (↑(1 + 2 * A.length) : Int)) (D.int (↑(1 + 2 * A.length) : Int)) z (D.ref a) (D.ref b)) ?_;refine zsK ?_;refine zsI ?_;refine t_bool ?_;refine ztA ?_;refine ztC ?_;refine zN (.int x) ?_;refine zN (.int 1114111) ?_;refine k_lt ?_;refine ite_t (by simpa using h1) ?_;refine ztA ?_;refine ztN ?_;refine ztV ?_;refine zK (.fn 145) ?_;refine zlC ?_;refine zN z ?_;refine zlC ?_;refine zN v ?_;refine l_nil ?_;refine Rx.same (like_any (by exact ln0 234889940311059761 [_] []) (hne _)) ?_;refine k_truth ?_;refine ite_yes ?_;refine a_nil_and ?_;refine ite_yes ?_;refine zsK ?_;refine zsX ?_;refine zM ?_;refine zN (.ref a) ?_;refine zmO ha2 ?_;refine zlC ?_;refine zP ?_;refine zN (.int x) ?_;refine zI ?_;refine b_add ?_;refine l_nil ?_;refine m_append ha2 (by simp [maxLen]) ?_
 have hab : a ≠ b := by exact fun hq => ln3 1200 1601601 1409681 1475201 [_,_,_] [] hq hlb lb
 have ha3 := at_set (o' := .list ([.int x] ++ [.int (x + 1)])) ha2;have hb3 := at_set_ne (o' := AO.list ([D.int x] ++ [.int (x + 1)])) hab hb;have k3 : Keep H' (H2.set a (.list ([.int x] ++ [.int (x + 1)]))) := k2.set (by with_reducible assumption);generalize H2.set a (.list ([.int x] ++ [.int (x + 1)])) = H3 at k3 ha3 hb3 ⊢;refine zsK ?_;refine zsX ?_;refine zM ?_;refine zN (.ref b) ?_;refine zmO hb3 ?_;refine zlC ?_;refine zN z ?_;refine l_nil ?_;refine m_append hb3 (by simp [maxLen]) ?_;have hb4 := at_set (o' := .list ([v] ++ [z])) hb3;have ha4 := at_set_ne (o' := AO.list ([v] ++ [z])) hab.symm ha3;have k4 : Keep H' (H3.set b (.list ([v] ++ [z]))) := k3.set (by exact ln3 1409601 1411201 1409721 1476881 [_,_,_,_] [] hla hlb lb);generalize H3.set b (.list ([v] ++ [z])) = H4 at k4 ha4 hb4 ⊢;refine s_nil ?_;refine zsK ?_;refine zsI ?_;refine t_bool ?_;refine ztA ?_;refine ztC ?_;refine zN (.int (↑(1 + 2 * A.length) : Int)) ?_;refine zI ?_;refine k_gt ?_;refine ite_t (by simp; exact ln0 11497760368029056561 [_] []) ?_;refine ztA ?_;refine ztV ?_;refine zK (.fn 145) ?_;refine zlC ?_;refine zX ?_;refine zG ?_;refine zN (.ref r) ?_;refine at_attr (d := .ref w) (k4 _ _ hr) (k4 _ _ hd) rfl (by kernel_rfl) (by kernel_rfl) ?_;refine zP ?_;refine zN (.int (↑(1 + 2 * A.length) : Int)) ?_;refine zI ?_;refine b_sub ?_;rw [eidx];refine g_list (r := z) (k4 _ _ hv) lv (nth_nat hz0) ?_;refine zlC ?_;refine zN v ?_;refine l_nil ?_;refine Rx.same (like_any (by exact ln0 234889940413459761 [_] []) (hne _)) ?_;refine k_truth ?_;refine ite_no ?_;refine ite_no ?_;refine s_nil ?_;refine zsK ?_;refine zsA ?_;refine zP ?_;refine zP ?_;refine zZ ?_;refine zG ?_;refine zN (.ref r) ?_;refine at_attr (d := .ref s) (k4 _ _ hr) (k4 _ _ hd) rfl (by kernel_rfl) (by kernel_rfl) ?_;refine o_none ?_;refine o_some ?_;refine zN (.int (↑(1 + 2 * A.length) : Int)) ?_;refine o_none ?_;have hs4 := k4 _ _ hs;rw [List.map_append] at hs4;have hv4 := k4 _ _ hv;rw [vaF_app, ← List.cons_append] at hv4;have hr4 := k4 _ _ hr;have hd4 := k4 _ _ hd;refine sl_list hs4 rfl rfl rfl (by rw [List.length_append, List.length_map, List.length_map]; exact ln3 144598664705601 96292868882 100359830441 48937395623153998456528286401 [_,_,_,_] [] hz lB elow) (cut_take _ _ (by simp; exact Nat.le_antisymm (ln1 376019631150530646401 100354710401 [_,_] [] lA) (ln1 375823803432966018161 104448150441 [_,_] [] lA))) (by refine lm ?_; exact ln2 90374164801 96292867242 48937394952065358456528286401 [_,_,_] [] hz elow) ?_;intro c H5 k5 hc5 l5;refine zN (.ref a) ?_;refine b_lists hc5 (k5 _ _ ha4) (by simp [maxLen]; exact ln2 90373972801 96292867242 100354710401 [_,_,_] [] hz lA) ?_;intro c6 H6 k6 hc6 l6;refine zZ ?_;refine zG ?_;refine zN (.ref r) ?_;have k46 := k5.trans k6;refine at_attr (d := .ref s) (k46 _ _ hr4) (k46 _ _ hd4) rfl (by kernel_rfl) (by kernel_rfl) ?_;refine o_some ?_;refine zN (.int (↑(1 + 2 * A.length) : Int)) ?_;refine o_none ?_;refine o_none ?_;refine sl_list (k46 _ _ hs4) rfl rfl rfl (by rw [List.length_append, List.length_map, List.length_map]; exact ln3 144598664705601 96292868882 100359830441 48937395623153998456528286401 [_,_,_,_] [] hz lB elow) (cut_drop _ _ (by simp; exact Nat.le_antisymm (ln1 376019631150530646401 100354710401 [_,_] [] lA) (ln1 375823803432966018161 104448150441 [_,_] [] lA))) (by refine lm ?_; exact ln2 90374164801 96292867242 100357270401 [_,_,_] [] hz lB) ?_;intro c7 H7 k7 hc7 l7;refine b_lists (k7 _ _ hc6) hc7 (by simp [maxLen]; exact ln3 592275711302264425857601 96292868882 100357270401 100359830441 [_,_,_,_] [] hz lA lB) ?_;intro c8 H8 k8 hc8 l8;refine zN (.ref r) ?_;have k48 := k46.trans (k7.trans k8);refine set_attr (rmD z c8 w) (k48 _ _ hr4) (k48 _ _ hd4) rfl (by kernel_rfl) (by simp) (by kernel_rfl) ?_;have hd9 := at_set (o' := .dict (rmD z c8 w)) (k48 _ _ hd4);have l4 := k4.len;have hjl := lt_of_at hd4
 have hj8 : j ≠ c8 := by have := k48.len; have := k46.len; have := k7.len; exact fun hq => ln5 1200 1601601 1409681 1476801 1414521 1411361 [_,_,_,_,_] [] hq l8 hjl ‹_› this
 have hc9 := at_set_ne (o' := .dict (rmD z c8 w)) hj8 hc8;have hr9 := at_set_ne (o' := .dict (rmD z c8 w)) hrj.symm (k48 _ _ hr4);have hv9 := at_set_ne (o' := .dict (rmD z c8 w)) hwj.symm (k48 _ _ hv4);have hb9 := at_set_ne (o' := .dict (rmD z c8 w)) (show j ≠ b by exact fun hq => ln5 1200 1601601 1412881 1475201 1409761 1478521 [_,_,_,_,_] [] hq hla na hlb lb) (k48 _ _ hb4);have kb9 : KeepBut (· = j) H' (H8.set j (.dict (rmD z c8 w))) := KeepBut.set (Keep.but (k4.trans k48)) rfl;generalize H8.set j (.dict (rmD z c8 w)) = H9 at *;refine zsK ?_;refine zsA ?_;refine zP ?_;refine zP ?_;refine zZ ?_;refine zG ?_;refine zN (.ref r) ?_;refine at_attr (d := .ref w) hr9 hd9 rfl (by kernel_rfl) (by kernel_rfl) ?_;refine o_none ?_;refine o_some ?_;refine zN (.int (↑(1 + 2 * A.length) : Int)) ?_;refine o_none ?_;refine sl_list hv9 rfl rfl rfl (by simp [maxLen]; exact ln3 144598562305601 96292868882 100357270401 100359830441 [_,_,_,_] [] hz vA vB) (cut_take _ _ (by simp; exact Nat.le_antisymm (ln1 376019631150530646401 100354710401 [_,_] [] vA) (ln1 375823803432966018161 104448150441 [_,_] [] vA))) (by simp [maxLen]; exact ln2 90374100801 96292867242 100354710401 [_,_,_] [] hz vA) ?_;intro e1 J1 m1 he1 n1;refine zN (.ref b) ?_;refine b_lists he1 (m1 _ _ hb9) (by simp [maxLen]; exact ln2 90373972801 96292867242 100354710401 [_,_,_] [] hz vA) ?_;intro e2 J2 m2 he2 n2;refine zZ ?_;refine zG ?_;refine zN (.ref r) ?_;have m12 := m1.trans m2;refine at_attr (d := .ref w) (m12 _ _ hr9) (m12 _ _ hd9) rfl (by kernel_rfl) (by kernel_rfl) ?_;refine o_some ?_;refine zN (.int (↑(1 + 2 * A.length) : Int)) ?_;refine o_none ?_;refine o_none ?_;refine sl_list (m12 _ _ hv9) rfl rfl rfl (by simp [maxLen]; exact ln3 144598562305601 96292868882 100357270401 100359830441 [_,_,_,_] [] hz vA vB) (cut_drop _ _ (by simp; exact Nat.le_antisymm (ln1 376019631150530646401 100354710401 [_,_] [] vA) (ln1 375823803432966018161 104448150441 [_,_] [] vA))) (by exact ln2 90374164801 96292867242 100357270401 [_,_,_] [] hz vB) ?_;intro e3 J3 m3 he3 n3;refine b_lists (m3 _ _ he2) he3 (by simp [maxLen]; exact ln3 592275711302264425857601 96292868882 100357270401 100359830441 [_,_,_,_] [] hz vA vB) ?_;intro e4 J4 m4 he4 n4;refine zN (.ref r) ?_;have m14 := m12.trans (m3.trans m4);refine set_attr (rmD z c8 e4) (m14 _ _ hr9) (m14 _ _ hd9) rfl (by kernel_rfl) (by simp) (by kernel_rfl) ?_;have hjl := lt_of_at hd9
 have hj4 : j ≠ e4 := by have := m14.len; have := m12.len; have := m3.len; exact fun hq => ln5 1200 1601601 1409681 1476801 1414521 1411361 [_,_,_,_,_] [] hq n4 hjl ‹_› this
 have hr' := at_set_ne (o' := .dict (rmD z c8 e4)) hrj.symm (m14 _ _ hr9);have hd' := at_set (o' := .dict (rmD z c8 e4)) (m14 _ _ hd9);have hc' := at_set_ne (o' := .dict (rmD z c8 e4)) hj8 (m14 _ _ hc9);have he' := at_set_ne (o' := .dict (rmD z c8 e4)) hj4 he4;have kb' : KeepBut (· = j) H' (J4.set j (.dict (rmD z c8 e4))) := KeepBut.set (kb9.trans (Keep.but m14)) rfl;refine s_nil ?_;refine in03 rfl ⟨hr', ⟨c8, e4, hd', ?_, ?_⟩, by simp; exact ln1 5900600937857601 96292865601 [_,_] [] hz⟩ kb'
 ·rw [hc', stF_app];simp [stF]
 ·rw [he', vaF_app];simp [vaF]
end Mine
end

-- WJ
section
namespace Mine
theorem putE_len (es : List (Str × D)) (k : Str) (v : D) : (putE es k v).length ≤ es.length + 1 := by
 induction es with
 | nil => simp [putE]
 | cons e es ih =>
  obtain ⟨k', v'⟩ := e;unfold putE
  split
  ·simp
  ·simp; with_reducible assumption
noncomputable abbrev putAll (v : D) (es : List (Str × D)) (ks : List Str) : List (Str × D) := ks.foldl (fun e k => putE e k v) es
theorem putAll_len (v : D) (ks : List Str) : ∀ es, (putAll v es ks).length ≤ es.length + ks.length := by
 induction ks with
 | nil => intro es; simp
 | cons k ks ih =>
  intro es;have h1 := ih (putE es k v);have := putE_len es k v
  show (putAll v (putE es k v) ks).length ≤ _
  rw [List.length_cons];exact ln2 146866314369601 2293892801 91753857721 [_,_,_,_] [] h1 this
theorem map_cons_inv {α : Type} {f : α → D} {d : D} {r : List D} {xs : List α} (h : d :: r = xs.map f) : ∃ x xs', xs = x :: xs' ∧ d = f x ∧ r = xs'.map f := by
 cases xs with
 | nil => cases h
 | cons x xs => exact ⟨x, xs, rfl, by simpa using congrArg List.head? h, by simpa using congrArg List.tail h⟩
theorem map_nil_inv {α : Type} {f : α → D} {xs : List α} (h : [] = xs.map f) : xs = [] := by simpa using h.symm
noncomputable def dfl0 : List (Str × D) := [("gc", .str "Cn"), ("ccc", .int 0), ("bc", .str "L"), ("lb", .str "XX"), ("ea", .str "N"), ("sc", .str "Zzzz"), ("jt", .str "U"), ("incb", .str "None")]
noncomputable def nm1 : List Str := ["gcb", "wb", "sb"]
noncomputable def nm2 : List Str := ["ex", "sd", "cased", "ci", "ep", "di", "ids", "idc", "xids", "xidc", "pat_syn", "pat_ws", "idst"]
noncomputable def nm3 : List Str := ["dm", "uc", "lc", "tc", "cf", "bm", "bpb", "scx", "nt", "nv", "name", "conf", "nfkc_cf"]
noncomputable def nm4 : List Str := ["suc", "slc", "stc", "alias"]
noncomputable def b1 := putAll (.str "Other") dfl0 nm1
noncomputable def b2 := putAll (.bool false) b1 nm2
noncomputable def b3 := putAll .none b2 nm3
noncomputable def b4 := putAll (.tup []) b3 nm4
abbrev po_dfl_spec (H : AH) : D → AH → Prop := fun d H' => ∃ a ds, d = .ref a ∧ Keep H H' ∧ H.length ≤ a ∧ H'[a]? = some (.dict ds) ∧ ds.lookup ("sc" : Str) = some (D.str "Zzzz") ∧ ds.lookup ("scx" : Str) = some D.none ∧ ds.lookup ("bpb" : Str) = some D.none
noncomputable def frWJ0 : Loc := [("found", none), ("name", none)]
noncomputable def frWJ1 (x0 : D) : Loc := [("found", some x0), ("name", none)]
noncomputable def frWJ2 (x0 : D) (x1 : Option D) : Loc := [("found", some x0), ("name", x1)]
noncomputable abbrev ivWJ0 (H : AH) (a : Nat) : List D → Loc → AH → Prop := fun zr0 zl zh => ∃ zv0, zl = (frWJ2 (D.ref a) zv0 : Loc) ∧ (fun _ r J => Keep H J ∧ ∃ pre rs, pre ++ rs = nm1 ∧ r = rs.map D.str ∧ J[a]? = some (.dict (putAll (.str "Other") dfl0 pre))) zv0 zr0 zh
noncomputable def frWJ3 (x0 x1 : D) : Loc := [("found", some x0), ("name", some x1)]
noncomputable abbrev ivWJ1 (H : AH) (a : Nat) : List D → Loc → AH → Prop := fun zr0 zl zh => ∃ zv0, zl = (frWJ2 (D.ref a) zv0 : Loc) ∧ (fun _ r J => Keep H J ∧ ∃ pre rs, pre ++ rs = nm2 ∧ r = rs.map D.str ∧ J[a]? = some (.dict (putAll (.bool false) b1 pre))) zv0 zr0 zh
noncomputable abbrev ivWJ2 (H : AH) (a : Nat) : List D → Loc → AH → Prop := fun zr0 zl zh => ∃ zv0, zl = (frWJ2 (D.ref a) zv0 : Loc) ∧ (fun _ r J => Keep H J ∧ ∃ pre rs, pre ++ rs = nm3 ∧ r = rs.map D.str ∧ J[a]? = some (.dict (putAll .none b2 pre))) zv0 zr0 zh
noncomputable abbrev ivWJ3 (H : AH) (a : Nat) : List D → Loc → AH → Prop := fun zr0 zl zh => ∃ zv0, zl = (frWJ2 (D.ref a) zv0 : Loc) ∧ (fun _ r J => Keep H J ∧ ∃ pre rs, pre ++ rs = nm4 ∧ r = rs.map D.str ∧ J[a]? = some (.dict (putAll (.tup []) b3 pre))) zv0 zr0 zh
theorem dfl_spec {n : Nat} {H : AH} :
  Rx ((ev ge (n + 20)).cl (.fn 201) [] H) (po_dfl_spec H) := by
 refine zcF frWJ0 ?_;refine zsK ?_;refine zsN ?_;refine zD ?_; simp only [List.zip_cons_cons, List.zip_nil_left, List.zip_nil_right];refine zpC ?_;refine zS ?_;refine ⟨_, rfl, ?_⟩;refine zS ?_;refine zpC ?_;refine zS ?_;refine ⟨_, rfl, ?_⟩;refine zI ?_;refine zpC ?_;refine zS ?_;refine ⟨_, rfl, ?_⟩;refine zS ?_;refine zpC ?_;refine zS ?_;refine ⟨_, rfl, ?_⟩;refine zS ?_;refine zpC ?_;refine zS ?_;refine ⟨_, rfl, ?_⟩;refine zS ?_;refine zpC ?_;refine zS ?_;refine ⟨_, rfl, ?_⟩;refine zS ?_;refine zpC ?_;refine zS ?_;refine ⟨_, rfl, ?_⟩;refine zS ?_;refine zpC ?_;refine zS ?_;refine ⟨_, rfl, ?_⟩;refine zS ?_;refine p_nil ?_;intro a H1 k1 h1 l1;refine zsL (frWJ1 (D.ref a)) ?_;refine zsK ?_;refine zsF ?_;refine zT ?_;refine zlC ?_;refine zS ?_;refine zlC ?_;refine zS ?_;refine zlC ?_;refine zS ?_;refine l_nil ?_;refine in23 _ _ rfl (by decide) ?_;refine zlp (ivWJ0 H a) ?_ ?_ ?_
 ·intro d r _ J zi1;refine el13 zi1 fun v zr2 k zq3 => ?_;clear zi1;subst zr2;refine el23 zq3 fun pre rs hp hr h => ?_;clear zq3;refine el23 (map_cons_inv hr) fun x rs zr1 zr2 zr3 => ?_;subst zr1;subst zr2;subst zr3;refine l_step ?_;refine zbT (frWJ3 (D.ref a) (D.str x)) ?_;refine zsK ?_;refine zsS ?_;refine zS ?_;refine zN (.ref a) ?_;refine zN (.str x) ?_;have hl := putAll_len (.str "Other") pre dfl0
  have hl2 : pre.length ≤ 13 := by have := congrArg List.length hp; simp [nm1] at this; exact ln1 57174401 6313477737857601 [_,_] [] this
  have hl3 : List.length dfl0 ≤ 60 := by decide +kernel
  refine u_dict h (by simp [maxLen] at hl ⊢; exact ln3 90374164801 2293889601 57174481 90115860841 [_,_,_] [] hl hl2 hl3) ?_;refine s_nil ?_;refine ⟨rfl, _, rfl, k.set l1, pre ++ [x], rs, by simpa using hp, rfl, ?_⟩;rw [at_set h, putAll, putAll, List.foldl_append]; rfl
 ·intro l H2 zi1;refine el13 zi1 fun v zr2 k2 zq3 => ?_;clear zi1;subst zr2;refine el23 zq3 fun pre rs hp hr h2 => ?_;clear zq3;rw [map_nil_inv hr, List.append_nil] at hp;subst hp
  change _ = some (AO.dict b1) at h2
  refine zsK ?_;refine zsF ?_;refine zT ?_;refine zlC ?_;refine zS ?_;refine zlC ?_;refine zS ?_;refine zlC ?_;refine zS ?_;refine zlC ?_;refine zS ?_;refine zlC ?_;refine zS ?_;refine zlC ?_;refine zS ?_;refine zlC ?_;refine zS ?_;refine zlC ?_;refine zS ?_;refine zlC ?_;refine zS ?_;refine zlC ?_;refine zS ?_;refine zlC ?_;refine zS ?_;refine zlC ?_;refine zS ?_;refine zlC ?_;refine zS ?_;refine l_nil ?_;refine in23 _ _ rfl (by decide) ?_;refine zlp (ivWJ1 H a) ?_ ?_ ?_
  ·intro d r _ J zi1;refine el13 zi1 fun v zr2 k zq3 => ?_;clear zi1;subst zr2;refine el23 zq3 fun pre rs hp hr h => ?_;clear zq3;refine el23 (map_cons_inv hr) fun x rs zr1 zr2 zr3 => ?_;subst zr1;subst zr2;subst zr3;refine l_step ?_;refine zbT (frWJ3 (D.ref a) (D.str x)) ?_;refine zsK ?_;refine zsS ?_;refine zB ?_;refine zN (.ref a) ?_;refine zN (.str x) ?_;have hl := putAll_len (.bool false) pre b1
   have hl2 : pre.length ≤ 13 := by have := congrArg List.length hp; simp [nm2] at this; exact ln1 57174401 6379013737857601 [_,_] [] this
   have hl3 : List.length b1 ≤ 60 := by decide +kernel
   refine u_dict h (by simp [maxLen] at hl ⊢; exact ln3 90374164801 2293889601 57174481 90115860841 [_,_,_] [] hl hl2 hl3) ?_;refine s_nil ?_;refine ⟨rfl, _, rfl, k.set l1, pre ++ [x], rs, by simpa using hp, rfl, ?_⟩;rw [at_set h, putAll, putAll, List.foldl_append]; rfl
  ·intro l H3 zi1;refine el13 zi1 fun v zr2 k3 zq3 => ?_;clear zi1;subst zr2;refine el23 zq3 fun pre rs hp hr h3 => ?_;clear zq3;rw [map_nil_inv hr, List.append_nil] at hp;subst hp
   change _ = some (AO.dict b2) at h3
   refine zsK ?_;refine zsF ?_;refine zT ?_;refine zlC ?_;refine zS ?_;refine zlC ?_;refine zS ?_;refine zlC ?_;refine zS ?_;refine zlC ?_;refine zS ?_;refine zlC ?_;refine zS ?_;refine zlC ?_;refine zS ?_;refine zlC ?_;refine zS ?_;refine zlC ?_;refine zS ?_;refine zlC ?_;refine zS ?_;refine zlC ?_;refine zS ?_;refine zlC ?_;refine zS ?_;refine zlC ?_;refine zS ?_;refine zlC ?_;refine zS ?_;refine l_nil ?_;refine in23 _ _ rfl (by decide) ?_;refine zlp (ivWJ2 H a) ?_ ?_ ?_
   ·intro d r _ J zi1;refine el13 zi1 fun v zr2 k zq3 => ?_;clear zi1;subst zr2;refine el23 zq3 fun pre rs hp hr h => ?_;clear zq3;refine el23 (map_cons_inv hr) fun x rs zr1 zr2 zr3 => ?_;subst zr1;subst zr2;subst zr3;refine l_step ?_;refine zbT (frWJ3 (D.ref a) (D.str x)) ?_;refine zsK ?_;refine zsS ?_;refine zO ?_;refine zN (.ref a) ?_;refine zN (.str x) ?_;have hl := putAll_len .none pre b2
    have hl2 : pre.length ≤ 13 := by have := congrArg List.length hp; simp [nm3] at this; exact ln1 57174401 6379013737857601 [_,_] [] this
    have hl3 : List.length b2 ≤ 60 := by decide +kernel
    refine u_dict h (by simp [maxLen] at hl ⊢; exact ln3 90374164801 2293889601 57174481 90115860841 [_,_,_] [] hl hl2 hl3) ?_;refine s_nil ?_;refine ⟨rfl, _, rfl, k.set l1, pre ++ [x], rs, by simpa using hp, rfl, ?_⟩;rw [at_set h, putAll, putAll, List.foldl_append]; rfl
   ·intro l H4 zi1;refine el13 zi1 fun v zr2 k4 zq3 => ?_;clear zi1;subst zr2;refine el23 zq3 fun pre rs hp hr h4 => ?_;clear zq3;rw [map_nil_inv hr, List.append_nil] at hp;subst hp
    change _ = some (AO.dict b3) at h4
    refine zsK ?_;refine zsF ?_;refine zT ?_;refine zlC ?_;refine zS ?_;refine zlC ?_;refine zS ?_;refine zlC ?_;refine zS ?_;refine zlC ?_;refine zS ?_;refine l_nil ?_;refine in23 _ _ rfl (by decide) ?_;refine zlp (ivWJ3 H a) ?_ ?_ ?_
    ·intro d r _ J zi1;refine el13 zi1 fun v zr2 k zq3 => ?_;clear zi1;subst zr2;refine el23 zq3 fun pre rs hp hr h => ?_;clear zq3;refine el23 (map_cons_inv hr) fun x rs zr1 zr2 zr3 => ?_;subst zr1;subst zr2;subst zr3;refine l_step ?_;refine zbT (frWJ3 (D.ref a) (D.str x)) ?_;refine zsK ?_;refine zsS ?_;refine zT ?_;refine l_nil ?_;refine zN (.ref a) ?_;refine zN (.str x) ?_;have hl := putAll_len (.tup []) pre b3
     have hl2 : pre.length ≤ 13 := by have := congrArg List.length hp; simp [nm4] at this; exact ln1 57174401 6320031337857601 [_,_] [] this
     have hl3 : List.length b3 ≤ 60 := by decide +kernel
     refine u_dict h (by simp [maxLen] at hl ⊢; exact ln3 90374164801 2293889601 57174481 90115860841 [_,_,_] [] hl hl2 hl3) ?_;refine s_nil ?_;refine ⟨rfl, _, rfl, k.set l1, pre ++ [x], rs, by simpa using hp, rfl, ?_⟩;rw [at_set h, putAll, putAll, List.foldl_append]; rfl
    ·intro l H5 zi1;refine el13 zi1 fun v zr2 k5 zq3 => ?_;clear zi1;subst zr2;refine el23 zq3 fun pre rs hp hr h5 => ?_;clear zq3;rw [map_nil_inv hr, List.append_nil] at hp;subst hp
     change _ = some (AO.dict b4) at h5
     refine zsK ?_;refine zsS ?_;refine zT ?_;refine zlC ?_;refine zS ?_;refine zlC ?_;refine zT ?_;refine l_nil ?_;refine l_nil ?_;refine zN (.ref a) ?_;refine zS ?_;refine u_dict h5 (by decide +kernel) ?_;refine zsK ?_;refine zsR ?_;refine zN (.ref a) ?_;exact in27 a _ rfl (k5.set l1) l1 (at_set h5) (by kernel_rfl) (by kernel_rfl) (by kernel_rfl)
    ·exact in13 _ rfl k4 ⟨[], nm4, rfl, rfl, h4⟩
   ·exact in13 _ rfl k3 ⟨[], nm3, rfl, rfl, h3⟩
  ·exact in13 _ rfl k2 ⟨[], nm2, rfl, rfl, h2⟩
 ·exact in13 _ rfl k1 ⟨[], nm1, rfl, rfl, h1⟩
end Mine
end

-- WK
section
namespace Mine
theorem c_cls' {n : Nat} {C : Addr} {c : Cl} {args : List D} {H : AH} {Q : D → AH → Prop} (hc : ge.cls C = some c)
  (h : ∀ j r H1, Keep H H1 → H1[j]? = some (.dict []) → H1[r]? = some (.inst C j) → H.length ≤ j → H.length ≤ r → Rx ((ev ge n).cl (.fn c.init) (.ref r :: args) H1) fun d H2 => d = .none ∧ Q (.ref r) H2) : Rx ((ev ge (n + 1)).cl (.cls C) args H) Q := by
 refine c_cls hc ?_;refine h H.length (H.length + 1) _ (Keep.app _) ?_ ?_ (Nat.le_refl _) (by exact ln0 91753856001 [_] [])
 ·rw [List.getElem?_append_right (Nat.le_refl _), Nat.sub_self]; rfl
 ·rw [List.getElem?_append_right (by exact ln0 91753856001 [_] []), show H.length + 1 - H.length = 1 by exact Nat.le_antisymm (ln1 56406401 159913373185601 [_,_] [] (Nat.sub_add_cancel (ln0 91753856001 [_] []))) (ln1 56322161 166466973185601 [_,_] [] (Nat.sub_add_cancel (ln0 91753856001 [_] [])))]; rfl
abbrev po_dfl_any (H : AH) : D → AH → Prop := fun d H' => ∃ a ds, d = .ref a ∧ Keep H H' ∧ H.length ≤ a ∧ H'[a]? = some (.dict ds) ∧ ds.lookup ("sc" : Str) = some (D.str "Zzzz") ∧ ds.lookup ("scx" : Str) = some D.none ∧ ds.lookup ("bpb" : Str) = some D.none
theorem dfl_any {m : Nat} {H : AH} (hm : 20 ≤ m) :
  Rx ((ev ge m).cl (.fn 201) [] H) (po_dfl_any H) := by
 obtain ⟨n, rfl⟩ : ∃ n, m = n + 20 := ⟨m - 20, by exact Nat.le_antisymm (ln1 91802497601 102442262441 [_,_] [] (Nat.sub_add_cancel (ln1 56352561 56352561 [_] [] hm))) (ln1 90256662401 98448662401 [_,_] [] (Nat.sub_add_cancel (ln1 56352561 56352561 [_] [] hm)))⟩;exact dfl_spec
abbrev po_rm_init (r j : Nat) (z : D) (H : AH) : D → AH → Prop := fun d H' => d = .none ∧ RMap H' r j z [] ∧ KeepBut (· = j) H H'
noncomputable def frWK0 (x0 x1 : D) : Loc := [("self", some x0), ("default", some x1)]
set_option tactic.hygienic true in
theorem rm_init {m r j : Nat} {z : D} {H : AH} (hm : 20 ≤ m) (hr : H[r]? = some (.inst 190 j)) (hd : H[j]? = some (.dict [])) :
  Rx ((ev ge m).cl (.fn 159) [.ref r, z] H) (po_rm_init r j z H) := by
 obtain ⟨n, rfl⟩ : ∃ n, m = n + 20 := ⟨m - 20, by exact Nat.le_antisymm (ln1 91802497601 102442262441 [_,_] [] (Nat.sub_add_cancel (ln1 56352561 56352561 [_] [] hm))) (ln1 90256662401 98448662401 [_,_] [] (Nat.sub_add_cancel (ln1 56352561 56352561 [_] [] hm)))⟩
 have hrj : r ≠ j := by rintro rfl; rw [hr] at hd; cases hd
 have jl := lt_of_at hd;refine zcF (frWK0 (D.ref r) z) ?_;refine zsK ?_;refine zsA ?_;refine zN z ?_;refine zN (.ref r) ?_;refine set_attr [("default", z)] hr hd rfl (by kernel_rfl) (by simp) (by kernel_rfl) ?_;have hd1 := at_set (o' := .dict [("default", z)]) hd;have hr1 := at_set_ne (o' := .dict [("default", z)]) hrj.symm hr;have k1 : KeepBut (· = j) H (H.set j (.dict [("default", z)])) := KeepBut.set (fun _ _ _ e => e) rfl;generalize H.set j (.dict [("default", z)]) = H1 at *;have jl := lt_of_at hd1;refine zsK ?_;refine zsA ?_;refine zL ?_;refine zlC ?_;refine zI ?_;refine l_nil ?_;refine ⟨by simp [maxLen], ?_⟩;intro s H2 k2 hs2 l2;refine zN (.ref r) ?_;refine set_attr [("default", z), ("starts", .ref s)] (k2 _ _ hr1) (k2 _ _ hd1) rfl (by kernel_rfl) (by simp) (by kernel_rfl) ?_;have hd3 := at_set (o' := .dict [("default", z), ("starts", .ref s)]) (k2 _ _ hd1);have hr3 := at_set_ne (o' := .dict [("default", z), ("starts", .ref s)]) hrj.symm (k2 _ _ hr1);have hs3 := at_set_ne (o' := .dict [("default", z), ("starts", .ref s)]) (show j ≠ s by exact fun hq => ln3 1200 1601601 1475201 1409681 [_,_,_] [] hq jl l2) hs2;have k3 : KeepBut (· = j) H (H2.set j (.dict [("default", z), ("starts", .ref s)])) := KeepBut.set (k1.trans k2.but) rfl;generalize H2.set j (.dict [("default", z), ("starts", .ref s)]) = H3 at *;have jl := lt_of_at hd3;refine zsK ?_;refine zsA ?_;refine zL ?_;refine zlC ?_;refine zN z ?_;refine l_nil ?_;refine ⟨by simp [maxLen], ?_⟩;intro v H4 k4 hv4 l4;refine zN (.ref r) ?_;refine set_attr (rmD z s v) (k4 _ _ hr3) (k4 _ _ hd3) rfl (by kernel_rfl) (by simp) (by kernel_rfl) ?_;have hd5 := at_set (o' := .dict (rmD z s v)) (k4 _ _ hd3);have hr5 := at_set_ne (o' := .dict (rmD z s v)) hrj.symm (k4 _ _ hr3);have hs5 := at_set_ne (o' := .dict (rmD z s v)) (show j ≠ s by exact fun hq => ln3 1200 1601601 1475201 1409681 [_,_,_] [] hq ‹_› l2) (k4 _ _ hs3);have hv5 := at_set_ne (o' := .dict (rmD z s v)) (show j ≠ v by exact fun hq => ln3 1200 1601601 1475201 1409681 [_,_,_] [] hq jl l4) hv4;have k5 : KeepBut (· = j) H (H4.set j (.dict (rmD z s v))) := KeepBut.set (k3.trans k4.but) rfl;refine s_nil ?_;exact in03 rfl ⟨hr5, ⟨s, v, hd5, hs5, hv5⟩, by simp⟩ k5
noncomputable abbrev daD (df mp p w : Nat) : List (Str × D) := [("defaults", .ref df), ("maps", .ref mp), ("properties", .ref p), ("words", .ref w)]
structure DataS (H : AH) (kd jd df mp : Nat) (es : List (Str × D)) : Prop where
 inst : H[kd]? = some (.inst 239 jd)
 dict : ∃ p w, H[jd]? = some (.dict (daD df mp p w))
 dfl : ∃ ds, H[df]? = some (.dict ds) ∧ ds.lookup ("sc" : Str) = some (D.str "Zzzz") ∧ ds.lookup ("scx" : Str) = some D.none ∧ ds.lookup ("bpb" : Str) = some D.none
 maps : H[mp]? = some (.dict es)
 ne : mp ≠ jd ∧ mp ≠ df
theorem DataS.keep {H H' : AH} {kd jd df mp : Nat} {es : List (Str × D)} (M : DataS H kd jd df mp es) (k : Keep H H') : DataS H' kd jd df mp es :=
 ⟨k _ _ M.inst, let ⟨p, w, h⟩ := M.dict; ⟨p, w, k _ _ h⟩, let ⟨ds, h, r⟩ := M.dfl; ⟨ds, k _ _ h, r⟩, k _ _ M.maps, M.ne⟩
abbrev po_data_init (r j : Nat) (H : AH) : D → AH → Prop := fun d H' => d = .none ∧ ∃ df mp, DataS H' r j df mp [] ∧ KeepBut (· = j) H H' ∧ H.length ≤ mp
noncomputable def frWK1 (x0 : D) : Loc := [("self", some x0)]
theorem data_init {m r j : Nat} {H : AH} (hm : 30 ≤ m) (hr : H[r]? = some (.inst 239 j)) (hd : H[j]? = some (.dict [])) :
  Rx ((ev ge m).cl (.fn 215) [.ref r] H) (po_data_init r j H) := by
 obtain ⟨n, rfl⟩ : ∃ n, m = n + 30 := ⟨m - 30, by exact Nat.le_antisymm (ln1 91828097601 102442902441 [_,_] [] (Nat.sub_add_cancel (ln1 56368561 56368561 [_] [] hm))) (ln1 90257302401 98449302401 [_,_] [] (Nat.sub_add_cancel (ln1 56368561 56368561 [_] [] hm)))⟩
 have hrj : r ≠ j := by rintro rfl; rw [hr] at hd; cases hd
 have jl := lt_of_at hd;refine zcF (frWK1 (D.ref r)) ?_;refine zsK ?_;refine zsA ?_;refine zK (.fn 201) ?_;refine l_nil ?_;refine Rx.mono (dfl_any (by exact ln0 234889939594272561 [_] [])) ?_;intro _ H1 zi1;refine el26 zi1 fun a ds zr2 k1 l1 h1 e1 e2 => ?_;clear zi1;subst zr2;have na := lt_of_at h1;refine zN (.ref r) ?_;refine set_attr [("defaults", .ref a)] (k1 _ _ hr) (k1 _ _ hd) rfl (by kernel_rfl) (by simp) (by kernel_rfl) ?_;have hd2 := at_set (o' := .dict [("defaults", .ref a)]) (k1 _ _ hd);have hr2 := at_set_ne (o' := .dict [("defaults", .ref a)]) hrj.symm (k1 _ _ hr);have ha2 := at_set_ne (o' := .dict [("defaults", .ref a)]) (show j ≠ a by exact fun hq => ln3 1200 1601601 1475201 1409681 [_,_,_] [] hq jl l1) h1;have k2 : KeepBut (· = j) H (H1.set j (.dict [("defaults", .ref a)])) := KeepBut.set k1.but rfl
 have ll2 : H.length ≤ (H1.set j (.dict [("defaults", .ref a)])).length := by rw [List.length_set]; exact k1.len
 generalize H1.set j (.dict [("defaults", .ref a)]) = H2 at *;have jl2 := lt_of_at hd2;refine zsK ?_;refine zsA ?_;refine zD ?_; simp only [List.zip_cons_cons, List.zip_nil_left, List.zip_nil_right];refine p_nil ?_;intro mp H3 k3 hm3 l3;refine zN (.ref r) ?_;refine set_attr [("defaults", .ref a), ("maps", .ref mp)] (k3 _ _ hr2) (k3 _ _ hd2) rfl (by kernel_rfl) (by simp) (by kernel_rfl) ?_;have hd4 := at_set (o' := .dict [("defaults", .ref a), ("maps", .ref mp)]) (k3 _ _ hd2);have hr4 := at_set_ne (o' := .dict [("defaults", .ref a), ("maps", .ref mp)]) hrj.symm (k3 _ _ hr2);have ha4 := at_set_ne (o' := .dict [("defaults", .ref a), ("maps", .ref mp)]) (show j ≠ a by exact fun hq => ln3 1200 1601601 1475201 1409681 [_,_,_] [] hq jl l1) (k3 _ _ ha2);have hm4 := at_set_ne (o' := .dict [("defaults", .ref a), ("maps", .ref mp)]) (show j ≠ mp by exact fun hq => ln3 1200 1601601 1475201 1409681 [_,_,_] [] hq jl2 l3) hm3;have k4 : KeepBut (· = j) H (H3.set j (.dict [("defaults", .ref a), ("maps", .ref mp)])) := KeepBut.set (k2.trans k3.but) rfl;generalize H3.set j (.dict [("defaults", .ref a), ("maps", .ref mp)]) = H4 at *;have jl4 := lt_of_at hd4;refine zsK ?_;refine zsA ?_;refine zD ?_; simp only [List.zip_cons_cons, List.zip_nil_left, List.zip_nil_right];refine p_nil ?_;intro p H5 k5 hm5 l5;refine zN (.ref r) ?_;refine set_attr [("defaults", .ref a), ("maps", .ref mp), ("properties", .ref p)] (k5 _ _ hr4) (k5 _ _ hd4) rfl (by kernel_rfl) (by simp) (by kernel_rfl) ?_;have hd6 := at_set (o' := .dict [("defaults", .ref a), ("maps", .ref mp), ("properties", .ref p)]) (k5 _ _ hd4);have hr6 := at_set_ne (o' := .dict [("defaults", .ref a), ("maps", .ref mp), ("properties", .ref p)]) hrj.symm (k5 _ _ hr4);have ha6 := at_set_ne (o' := .dict [("defaults", .ref a), ("maps", .ref mp), ("properties", .ref p)]) (show j ≠ a by exact fun hq => ln3 1200 1601601 1475201 1409681 [_,_,_] [] hq jl l1) (k5 _ _ ha4);have hm6 := at_set_ne (o' := .dict [("defaults", .ref a), ("maps", .ref mp), ("properties", .ref p)]) (show j ≠ mp by exact fun hq => ln3 1200 1601601 1475201 1409681 [_,_,_] [] hq jl2 l3) (k5 _ _ hm4);have k6 : KeepBut (· = j) H (H5.set j (.dict [("defaults", .ref a), ("maps", .ref mp), ("properties", .ref p)])) := KeepBut.set (k4.trans k5.but) rfl;generalize H5.set j (.dict [("defaults", .ref a), ("maps", .ref mp), ("properties", .ref p)]) = H6 at *;have jl6 := lt_of_at hd6;refine zsK ?_;refine zsA ?_;refine zD ?_; simp only [List.zip_cons_cons, List.zip_nil_left, List.zip_nil_right];refine p_nil ?_;intro w H7 k7 hm7 l7;refine zN (.ref r) ?_;refine set_attr (daD a mp p w) (k7 _ _ hr6) (k7 _ _ hd6) rfl (by kernel_rfl) (by simp) (by kernel_rfl) ?_;have hd8 := at_set (o' := .dict (daD a mp p w)) (k7 _ _ hd6);have hr8 := at_set_ne (o' := .dict (daD a mp p w)) hrj.symm (k7 _ _ hr6);have ha8 := at_set_ne (o' := .dict (daD a mp p w)) (show j ≠ a by exact fun hq => ln3 1200 1601601 1475201 1409681 [_,_,_] [] hq jl l1) (k7 _ _ ha6);have hm8 := at_set_ne (o' := .dict (daD a mp p w)) (show j ≠ mp by exact fun hq => ln3 1200 1601601 1475201 1409681 [_,_,_] [] hq jl2 l3) (k7 _ _ hm6);have k8 : KeepBut (· = j) H (H7.set j (.dict (daD a mp p w))) := KeepBut.set (k6.trans k7.but) rfl;refine s_nil ?_;exact ⟨rfl, a, mp, ⟨hr8, ⟨p, w, hd8⟩, ⟨ds, ha8, e1, e2⟩, hm8, by have := lt_of_at ha2; exact ⟨fun hq => ln3 1200 1537601 1475241 1408081 [_,_,_] [] hq jl2 l3, fun hq => ln3 1200 1537601 1408081 1475241 [_,_,_] [] hq l3 this⟩⟩, k8, by exact ln2 1409601 1411201 1409681 [_,_,_] [] ll2 l3⟩
end Mine
end

-- WL
section
namespace Mine
theorem k_notin {H : AH} {i : Nat} {k : Str} {es : List (Str × D)} {R : Bool → Prop} (h : H[i]? = some (.dict es)) (q : R (!(es.lookup k).isSome)) : ∃ t, cmp H .NotIn (.str k) (.ref i) = some t ∧ R t :=
 ⟨_, by show (isIn H (.str k) (.ref i)).map _ = _; unfold isIn; dsimp only; rw [h]; rfl, q⟩
theorem k_in {H : AH} {i : Nat} {k : Str} {es : List (Str × D)} {R : Bool → Prop} (h : H[i]? = some (.dict es)) (q : R ((es.lookup k).isSome)) : ∃ t, cmp H .In (.str k) (.ref i) = some t ∧ R t :=
 ⟨_, by show isIn H (.str k) (.ref i) = _; unfold isIn; dsimp only; rw [h], q⟩
theorem meth_of {H : AH} {r j : Nat} {C : Addr} {c : Cl} {es : List (Str × D)} {name : Str} {f : Addr} (h1 : H[r]? = some (.inst C j)) (h2 : H[j]? = some (.dict es)) (hc : ge.cls C = some c) (hn : es.lookup name = none) (hf : c.meths.lookup name = some f) : methOf ge H r name = some f := by
 unfold methOf; rw [h1]; dsimp only; rw [hc, dictAt_of' h2]; dsimp only; rw [hn]; exact hf
theorem lookup_putE (es : List (Str × D)) (k : Str) (v : D) : (putE es k v).lookup k = some v := by
 induction es with
 | nil => simp [putE, List.lookup]
 | cons e es ih =>
  obtain ⟨k', v'⟩ := e;unfold putE
  by_cases h : k' = k
  ·subst h; simp [List.lookup]
  ·have h' : (k == k') = false := by simp; exact fun e => h e.symm
   simp [h, List.lookup, h', ih]
abbrev po_map_of1 (r : Nat) (H : AH) : D → AH → Prop := fun d H' => d = .ref r ∧ H' = H
noncomputable def frWL0 (x0 x1 : D) : Loc := [("self", some x0), ("name", some x1)]
theorem map_of1 {m kd jd df mp r : Nat} {es : List (Str × D)} {nm : Str} {H : AH} (hm : 20 ≤ m) (S : DataS H kd jd df mp es) (he : es.lookup nm = some (.ref r)) :
  Rx ((ev ge m).cl (.fn 236) [.ref kd, .str nm] H) (po_map_of1 r H) := by
 obtain ⟨n, rfl⟩ : ∃ n, m = n + 20 := ⟨m - 20, by exact Nat.le_antisymm (ln1 91802497601 102442262441 [_,_] [] (Nat.sub_add_cancel (ln1 56352561 56352561 [_] [] hm))) (ln1 90256662401 98448662401 [_,_] [] (Nat.sub_add_cancel (ln1 56352561 56352561 [_] [] hm)))⟩;refine el21 (S.dict) fun p w hd => ?_;refine zcF (frWL0 (D.ref kd) (D.str nm)) ?_;refine zsK ?_;refine zsI ?_;refine ztC ?_;refine zN (.str nm) ?_;refine zG ?_;refine zN (.ref kd) ?_;refine at_attr (d := .ref mp) S.inst hd rfl (by kernel_rfl) (by kernel_rfl) ?_;refine k_notin S.maps ?_;rw [he];refine ite_no ?_;refine s_nil ?_;refine zsK ?_;refine zsR ?_;refine zX ?_;refine zG ?_;refine zN (.ref kd) ?_;refine at_attr (d := .ref mp) S.inst hd rfl (by kernel_rfl) (by kernel_rfl) ?_;refine zN (.str nm) ?_;refine g_dict S.maps he ?_;exact ⟨rfl, rfl⟩
abbrev po_map_of0 (kd jd df mp : Nat) (es : List (Str × D)) (nm : Str) (z : D) (H : AH) : D → AH → Prop := fun d H' => ∃ r j, d = .ref r ∧ DataS H' kd jd df mp (putE es nm (.ref r)) ∧ RMap H' r j z [] ∧ KeepBut (· = mp) H H' ∧ H.length ≤ j
theorem map_of0 {m kd jd df mp : Nat} {es : List (Str × D)} {nm : Str} {z : D} {H : AH} (hm : 40 ≤ m) (S : DataS H kd jd df mp es) (he : es.lookup nm = none) (hes : es.length < 5)
  (hz : ∀ ds : List (Str × D), ds.lookup ("sc" : Str) = some (D.str "Zzzz") → ds.lookup ("scx" : Str) = some D.none → ds.lookup nm = some z) :
  Rx ((ev ge m).cl (.fn 236) [.ref kd, .str nm] H) (po_map_of0 kd jd df mp es nm z H) := by
 obtain ⟨n, rfl⟩ : ∃ n, m = n + 40 := ⟨m - 40, by exact Nat.le_antisymm (ln1 146800743233601 163905538580841 [_,_] [] (Nat.sub_add_cancel (ln1 90112064521 90112064521 [_] [] hm))) (ln1 144408578580801 157515778580801 [_,_] [] (Nat.sub_add_cancel (ln1 90112064521 90112064521 [_] [] hm)))⟩;refine el21 (S.dict) fun p w hd => ?_;refine el13 (S.dfl) fun ds hdf e1 e2 => ?_;have ez := hz ds e1 e2.1;refine zcF (frWL0 (D.ref kd) (D.str nm)) ?_;refine zsK ?_;refine zsI ?_;refine ztC ?_;refine zN (.str nm) ?_;refine zG ?_;refine zN (.ref kd) ?_;refine at_attr (d := .ref mp) S.inst hd rfl (by kernel_rfl) (by kernel_rfl) ?_;refine k_notin S.maps ?_;rw [he];refine ite_yes ?_;refine zsK ?_;refine zsS ?_;refine zK (.cls 190) ?_;refine zlC ?_;refine zM ?_;refine zG ?_;refine zN (.ref kd) ?_;refine at_attr (d := .ref df) S.inst hd rfl (by kernel_rfl) (by kernel_rfl) ?_;refine zmO hdf ?_;refine zlC ?_;refine zN (.str nm) ?_;refine l_nil ?_;refine m_get1 hdf ?_;rw [ez];refine l_nil ?_;refine c_cls' rfl ?_;intro j r H1 k1 hj hr lj lr;refine (rm_init (by exact fu (by decide)) hr hj).mono ?_;intro _ H2 zi1;refine el03 zi1 fun zr2 M kb => ?_;clear zi1;subst zr2;refine ⟨rfl, ?_⟩;have kk : Keep H H2 := fun i o e => kb i o (by have := lt_of_at e; exact fun hq => ln3 1200 1601601 1409681 1475201 [_,_,_] [] hq lj this) (k1 i o e);refine zG ?_;refine zN (.ref kd) ?_;refine at_attr (d := .ref mp) (kk _ _ S.inst) (kk _ _ hd) rfl (by kernel_rfl) (by kernel_rfl) ?_;refine zN (.str nm) ?_;refine u_dict (kk _ _ S.maps) (by exact ln1 90374164801 59222401 [_] [] hes) ?_;have lmp := lt_of_at S.maps;refine el23 (M.dict) fun s v rd rs rv => ?_
 have hne : mp ≠ kd := by rintro rfl; have := S.inst; rw [S.maps] at this; cases this
 have l2 := kk.len
 have S3 : DataS (H2.set mp (.dict (putE es nm (.ref r)))) kd jd df mp (putE es nm (.ref r)) := by
  exact ⟨at_set_ne hne (kk _ _ S.inst), ⟨p, w, at_set_ne S.ne.1 (kk _ _ hd)⟩, ⟨ds, at_set_ne S.ne.2 (kk _ _ hdf), e1, e2⟩, at_set (kk _ _ S.maps), S.ne⟩
 have mm := kk _ _ S.maps
 have M3 : RMap (H2.set mp (.dict (putE es nm (.ref r)))) r j z [] := by
  refine ⟨at_set_ne ?_ M.inst, ⟨s, v, at_set_ne (by exact fun hq => ln3 1200 1601601 1409681 1475201 [_,_,_] [] hq lj lmp) rd, at_set_ne ?_ rs, at_set_ne ?_ rv⟩, M.len⟩
  ·rintro rfl; have := M.inst; rw [mm] at this; cases this
  ·rintro rfl; rw [mm] at rs; cases rs
  ·rintro rfl; rw [mm] at rv; cases rv
 have k3 : KeepBut (· = mp) H (H2.set mp (.dict (putE es nm (.ref r)))) := KeepBut.set kk.but rfl;generalize H2.set mp (.dict (putE es nm (.ref r))) = H3 at *;refine el21 (S3.dict) fun p' w' hd3 => ?_;refine s_nil ?_;refine zsK ?_;refine zsR ?_;refine zX ?_;refine zG ?_;refine zN (.ref kd) ?_;refine at_attr (d := .ref mp) S3.inst hd3 rfl (by kernel_rfl) (by kernel_rfl) ?_;refine zN (.str nm) ?_;refine g_dict S3.maps (lookup_putE es nm _) ?_;exact in25 r j rfl S3 M3 k3 lj
end Mine
end

-- WM
section
namespace Mine
noncomputable def MapAt (H : AH) (es : List (Str × D)) (nm : Str) (z : D) (L : List (Int × D)) (b mp : Nat) : Prop := (es.lookup nm = none ∧ L = []) ∨ ∃ r j, es.lookup nm = some (.ref r) ∧ RMap H r j z L ∧ b ≤ j ∧ j ≠ mp
theorem MapAt.keep {H H' : AH} {es : List (Str × D)} {nm : Str} {z : D} {L : List (Int × D)} {b mp : Nat} (M : MapAt H es nm z L b mp) (k : Keep H H') : MapAt H' es nm z L b mp := by
 rcases M with M | ⟨r, j, h, M, b⟩
 ·exact .inl M
 ·exact .inr ⟨r, j, h, M.keep k, b⟩
theorem putE_new (es : List (Str × D)) (k : Str) (v : D) (h : es.lookup k = none) : putE es k v = es ++ [(k, v)] := by
 induction es with
 | nil => rfl
 | cons e es ih =>
  obtain ⟨k', v'⟩ := e;unfold putE
  by_cases hk : k' = k
  ·subst hk; simp [List.lookup] at h
  ·have h' : (k == k') = false := by simp; exact fun e => hk e.symm
   simp only [List.lookup, h'] at h;simp [hk, ih h]
theorem lookup_putE_ne (es : List (Str × D)) (k k2 : Str) (v : D) (h : k2 ≠ k) : (putE es k v).lookup k2 = es.lookup k2 := by
 induction es with
 | nil =>
  have h' : (k2 == k) = false := by simp; exact h
  simp [putE, List.lookup, h']
 | cons e es ih =>
  obtain ⟨k', v'⟩ := e;unfold putE
  by_cases hk : k' = k
  ·subst hk
   have h' : (k2 == k') = false := by simp; exact h
   simp [List.lookup, h']
  ·simp [hk, List.lookup, ih]
abbrev po_rm_put_any (r j : Nat) (z : D) (A B : List (Int × D)) (x : Int) (v : D) (H : AH) : D → AH → Prop := fun d H' => d = .none ∧ RMap H' r j z (A ++ (x, v) :: B) ∧ KeepBut (· = j) H H'
theorem rm_put_any {m r j : Nat} {z : D} {A B : List (Int × D)} {x : Int} {v : D} {H : AH} (hm : 40 ≤ m) (M : RMap H r j z (A ++ B)) (h0 : 0 < x) (h1 : x < 1114111) (hA : ∀ p ∈ A, p.1 + 1 < x) (hB : ∀ p ∈ B, x + 1 < p.1) (hz : (A ++ B).length < 20) (hne : ∀ H, isEq H z v = some false) :
  Rx ((ev ge m).cl (.fn 173) [.ref r, .int x, .int x, v] H) (po_rm_put_any r j z A B x v H) := by
 obtain ⟨n, rfl⟩ : ∃ n, m = n + 40 := ⟨m - 40, by exact Nat.le_antisymm (ln1 146800743233601 163905538580841 [_,_] [] (Nat.sub_add_cancel (ln1 90112064521 90112064521 [_] [] hm))) (ln1 144408578580801 157515778580801 [_,_] [] (Nat.sub_add_cancel (ln1 90112064521 90112064521 [_] [] hm)))⟩;exact rm_put M h0 h1 hA hB hz hne
theorem DataS.but {H H' : AH} {kd jd df mp j s v : Nat} {z : D} {es : List (Str × D)} (S : DataS H kd jd df mp es) (hj : H[j]? = some (.dict (rmD z s v))) (hm : j ≠ mp) (kb : KeepBut (· = j) H H') : DataS H' kd jd df mp es := by
 refine el21 (S.dict) fun p w hd => ?_;refine el13 (S.dfl) fun ds hdf e1 e2 => ?_;refine ⟨kb _ _ ?_ S.inst, ⟨p, w, kb _ _ ?_ hd⟩, ⟨ds, kb _ _ ?_ hdf, e1, e2⟩, kb _ _ hm.symm S.maps, S.ne⟩
 ·rintro rfl; have := S.inst; rw [hj] at this; cases this
 ·rintro rfl
  rw [hj] at hd;have := congrArg (fun l => List.lookup ("maps" : Str) l) (AO.dict.inj (Option.some.inj hd))
  have e : List.lookup ("maps" : Str) (rmD z s v) = none := by kernel_rfl
  have e' : List.lookup ("maps" : Str) (daD df mp p w) = some (.ref mp) := by kernel_rfl
  rw [e, e'] at this;cases this
 ·rintro rfl
  rw [hj] at hdf;rw [← AO.dict.inj (Option.some.inj hdf)] at e1
  have e : List.lookup ("sc" : Str) (rmD z s v) = none := by kernel_rfl
  rw [e] at e1;cases e1
noncomputable def PutAt (H : AH) (b mp : Nat) (z : D) (i : Nat) : Prop := i = mp ∨ b ≤ i ∧ ∃ s v, H[i]? = some (AO.dict (rmD z s v))
abbrev po_data_put (kd jd df mp b : Nat) (es : List (Str × D)) (nm : Str) (z v : D) (x : Int) (A B : List (Int × D)) (H : AH) : D → AH → Prop := fun d H' => d = .none ∧ ∃ es', DataS H' kd jd df mp es' ∧ MapAt H' es' nm z (A ++ (x, v) :: B) b mp ∧ (es'.lookup nm).isSome ∧ (∀ k, k ≠ nm → es'.lookup k = es.lookup k) ∧
   es'.length = es.length + (if (es.lookup nm).isSome then 0 else 1) ∧ KeepBut (PutAt H b mp z) H H'
noncomputable def frWM0 (x0 x1 x2 x3 x4 : D) : Loc := [("self", some x0), ("name", some x1), ("first", some x2), ("last", some x3), ("value", some x4)]
theorem data_put {m kd jd df mp b : Nat} {es : List (Str × D)} {nm : Str} {z v : D} {x : Int} {A B : List (Int × D)} {H : AH} (hm : 60 ≤ m) (S : DataS H kd jd df mp es) (hes : es.length < 5) (M : MapAt H es nm z (A ++ B) b mp)
  (hz : ∀ ds : List (Str × D), ds.lookup ("sc" : Str) = some (D.str "Zzzz") → ds.lookup ("scx" : Str) = some D.none → ds.lookup nm = some z) (hb : b ≤ H.length)
  (h0 : 0 < x) (h1 : x < 1114111) (hA : ∀ p ∈ A, p.1 + 1 < x) (hB : ∀ p ∈ B, x + 1 < p.1) (hn : (A ++ B).length < 20) (hne : ∀ H, isEq H z v = some false) :
  Rx ((ev ge m).cl (.fn 222) [.ref kd, .str nm, .int x, .int x, v] H) (po_data_put kd jd df mp b es nm z v x A B H) := by
 obtain ⟨n, rfl⟩ : ∃ n, m = n + 60 := ⟨m - 60, by exact Nat.le_antisymm (ln1 146800794433601 163905539860841 [_,_] [] (Nat.sub_add_cancel (ln1 90112096521 90112096521 [_] [] hm))) (ln1 144408579860801 157515779860801 [_,_] [] (Nat.sub_add_cancel (ln1 90112096521 90112096521 [_] [] hm)))⟩;refine el21 (S.dict) fun p w hd => ?_;refine el13 (S.dfl) fun ds hdf e1 e2 => ?_;refine zcF (frWM0 (D.ref kd) (D.str nm) (D.int x) (D.int x) v) ?_;refine zsK ?_;refine zsX ?_;refine zM ?_;refine zM ?_;refine zN (.ref kd) ?_;refine zmI S.inst (meth_of (f := 236) S.inst hd rfl (by kernel_rfl) (by kernel_rfl)) ?_;refine zlC ?_;refine zN (.str nm) ?_;refine l_nil ?_;rcases M with ⟨he, hL⟩ | ⟨r, j, he, M, hbj, hjm⟩
 ·obtain ⟨rfl, rfl⟩ : A = [] ∧ B = [] := by simpa using hL
  refine (map_of0 (by exact fu (by decide)) S he hes hz).mono ?_;intro _ H1 zi1;refine el25 zi1 fun r j zr2 S1 M1 kb1 lj => ?_;clear zi1;subst zr2;refine el23 (M1.dict) fun s1 v1 hj1 zq1 zq2 => ?_;clear zq1;clear zq2;refine zmI M1.inst (meth_of (f := 173) M1.inst hj1 rfl (by kernel_rfl) (by kernel_rfl)) ?_;refine zlC ?_;refine zN (.int x) ?_;refine zlC ?_;refine zN (.int x) ?_;refine zlC ?_;refine zN v ?_;refine l_nil ?_
  have hjm : j ≠ mp := by have := lt_of_at S.maps; exact fun hq => ln3 1200 1537601 1408081 1475241 [_,_,_] [] hq lj this
  refine (rm_put_any (by exact fu (by decide)) (A := []) (B := []) M1 h0 h1 hA hB hn hne).mono ?_;intro _ H2 zi1;refine el03 zi1 fun zr2 M2 kb2 => ?_;clear zi1;subst zr2;refine s_nil ?_;refine ⟨rfl, _, S1.but hj1 hjm kb2, .inr ⟨r, j, lookup_putE es nm _, M2, by exact ln2 1409601 1411201 1409681 [_,_,_] [] hb lj, hjm⟩, by rw [lookup_putE]; rfl, fun k hk => lookup_putE_ne es nm k _ hk, ?_, ?_⟩
  ·rw [putE_new _ _ _ he, he]; simp
  ·intro i o hi ho;have hi1 : i ≠ mp := fun e => hi (.inl e);have := lt_of_at ho;exact kb2 i o (show i ≠ j by exact fun hq => ln3 1200 1601601 1409681 1475201 [_,_,_] [] hq lj this) (kb1 i o hi1 ho)
 ·refine (map_of1 (by exact fu (by decide)) S he).mono ?_;intro _ H1 zi1;refine el02 zi1 fun zr2 zr3 => ?_;clear zi1;subst zr2;subst zr3;refine el23 (M.dict) fun s1 v1 hj1 zq1 zq2 => ?_;clear zq1;clear zq2;refine zmI M.inst (meth_of (f := 173) M.inst hj1 rfl (by kernel_rfl) (by kernel_rfl)) ?_;refine zlC ?_;refine zN (.int x) ?_;refine zlC ?_;refine zN (.int x) ?_;refine zlC ?_;refine zN v ?_;refine l_nil ?_;refine (rm_put_any (by exact fu (by decide)) M h0 h1 hA hB hn hne).mono ?_;intro _ H2 zi1;refine el03 zi1 fun zr2 M2 kb2 => ?_;clear zi1;subst zr2;refine s_nil ?_;refine ⟨rfl, es, S.but hj1 hjm kb2, .inr ⟨r, j, he, M2, hbj, hjm⟩, by rw [he]; rfl, fun k hk => rfl, by rw [he]; rfl, ?_⟩;intro i o hi ho;refine kb2 i o ?_ ho
  rintro rfl
  exact hi (.inr ⟨hbj, s1, v1, hj1⟩)
end Mine
end

-- WN
section
namespace Mine
noncomputable def FarApart (L : List (Int × D)) : Prop := L.Pairwise fun p q => p.1 + 1 < q.1
theorem FarApart.find {L : List (Int × D)} (h : FarApart L) {x : Int} {v : D} (hx : (x, v) ∈ L) : ∃ A B, L = A ++ (x, v) :: B ∧ (∀ p ∈ A, p.1 + 1 < x) ∧ ∀ p ∈ B, x + 1 < p.1 := by
 refine el21 (List.append_of_mem hx) fun A B zr1 => ?_;subst zr1;refine in23 A B rfl ?_ ?_
 ·intro p hp;exact (List.pairwise_append.mp h).2.2 p hp _ List.mem_cons_self
 ·intro p hp;exact (List.pairwise_cons.mp (List.pairwise_append.mp h).2.1).1 p hp
theorem FarApart.split : ∀ {L : List (Int × D)} (h : FarApart L) {x : Int}, (∀ p ∈ L, p.1 + 1 < x ∨ x + 1 < p.1) → ∃ A B, L = A ++ B ∧ (∀ p ∈ A, p.1 + 1 < x) ∧ ∀ p ∈ B, x + 1 < p.1
 | [], _, x, _ => ⟨[], [], rfl, by simp, by simp⟩
 | p :: L, h, x, hx => by
  have hp := List.pairwise_cons.mp h;rcases hx p List.mem_cons_self with h1 | h1
  ·refine el23 (FarApart.split hp.2 fun q hq => hx q (List.mem_cons_of_mem _ hq)) fun A B zr1 hA hB => ?_;subst zr1;refine in23 (p :: A) B rfl ?_ hB;intro q hq;rcases List.mem_cons.mp hq with rfl | hq
   ·exact h1
   ·exact hA q hq
  ·refine in23 ([]) (p :: L) rfl (by simp) ?_;intro q hq;rcases List.mem_cons.mp hq with rfl | hq
   ·exact h1
   ·have := hp.1 q hq; exact ln2 111554646721 111657046721 111554646801 [] [_,_,_] h1 this
theorem FarApart.split0 : ∀ {L : List (Int × D)} (h : FarApart L) {x : Int}, (∀ p ∈ L, p.1 ≠ x) → ∃ A B, L = A ++ B ∧ (∀ p ∈ A, p.1 + 1 ≤ x) ∧ ∀ p ∈ B, x < p.1
 | [], _, x, _ => ⟨[], [], rfl, by simp, by simp⟩
 | p :: L, h, x, hx => by
  have hp := List.pairwise_cons.mp h;have h1 := hx p List.mem_cons_self
  by_cases h2 : p.1 < x
  ·refine el23 (FarApart.split0 hp.2 fun q hq => hx q (List.mem_cons_of_mem _ hq)) fun A B zr1 hA hB => ?_;subst zr1;refine in23 (p :: A) B rfl ?_ hB;intro q hq;rcases List.mem_cons.mp hq with rfl | hq
   ·exact ln1 107458646721 1742721 [] [_,_] h2
   ·exact hA q hq
  ·refine in23 ([]) (p :: L) rfl (by simp) ?_;intro q hq;rcases List.mem_cons.mp hq with rfl | hq
   ·omega
   ·have := hp.1 q hq; exact ln2 1742721 1680321 111554646801 [] [_,_,_] (Int.not_lt.1 h2) this
theorem FarApart.ins {A B : List (Int × D)} {x : Int} {v : D} (h : FarApart (A ++ B)) (hA : ∀ p ∈ A, p.1 + 1 < x) (hB : ∀ p ∈ B, x + 1 < p.1) : FarApart (A ++ (x, v) :: B) := by
 refine el03 (List.pairwise_append.mp h) fun h1 h2 h3 => ?_;refine List.pairwise_append.mpr ⟨h1, List.pairwise_cons.mpr ⟨fun p hp => hB p hp, h2⟩, ?_⟩;intro p hp q hq;rcases List.mem_cons.mp hq with rfl | hq
 ·exact hA p hp
 ·exact h3 p hp q hq
abbrev po_rm_get1_any (v : D) (H : AH) : D → AH → Prop := fun d H' => d = v ∧ H' = H
theorem rm_get1_any {m r j : Nat} {z : D} {A B : List (Int × D)} {x : Int} {v : D} {H : AH} (hm : 26 ≤ m) (M : RMap H r j z (A ++ (x, v) :: B)) (h0 : 0 ≤ x) (hA : ∀ p ∈ A, p.1 + 1 < x) (hB : ∀ p ∈ B, x + 1 < p.1) :
  Rx ((ev ge m).cl (.fn 166) [.ref r, .int x] H) (po_rm_get1_any v H) := by
 obtain ⟨n, rfl⟩ : ∃ n, m = n + 26 := ⟨m - 26, by exact Nat.le_antisymm (ln1 91817857601 102442646441 [_,_] [] (Nat.sub_add_cancel (ln1 56362161 56362161 [_] [] hm))) (ln1 90257046401 98449046401 [_,_] [] (Nat.sub_add_cancel (ln1 56362161 56362161 [_] [] hm)))⟩;exact rm_get1 M h0 hA hB
abbrev po_rm_get0_any (z : D) (H : AH) : D → AH → Prop := fun d H' => d = z ∧ H' = H
theorem rm_get0_any {m r j : Nat} {z : D} {A B : List (Int × D)} {x : Int} {H : AH} (hm : 26 ≤ m) (M : RMap H r j z (A ++ B)) (h0 : 0 ≤ x) (hA : ∀ p ∈ A, p.1 + 1 ≤ x) (hB : ∀ p ∈ B, x < p.1) :
  Rx ((ev ge m).cl (.fn 166) [.ref r, .int x] H) (po_rm_get0_any z H) := by
 obtain ⟨n, rfl⟩ : ∃ n, m = n + 26 := ⟨m - 26, by exact Nat.le_antisymm (ln1 91817857601 102442646441 [_,_] [] (Nat.sub_add_cancel (ln1 56362161 56362161 [_] [] hm))) (ln1 90257046401 98449046401 [_,_] [] (Nat.sub_add_cancel (ln1 56362161 56362161 [_] [] hm)))⟩;exact rm_get0 M h0 hA hB
abbrev po_data_get (v : D) (H : AH) : D → AH → Prop := fun d H' => d = v ∧ H' = H
noncomputable def frWN0 (x0 x1 x2 : D) : Loc := [("self", some x0), ("name", some x1), ("code", some x2)]
theorem data_get {m kd jd df mp b : Nat} {es : List (Str × D)} {nm : Str} {z v : D} {x : Int} {L : List (Int × D)} {H : AH} (hm : 50 ≤ m) (S : DataS H kd jd df mp es) (M : MapAt H es nm z L b mp) (hL : FarApart L)
  (hz : ∀ ds : List (Str × D), ds.lookup ("sc" : Str) = some (D.str "Zzzz") → ds.lookup ("scx" : Str) = some D.none → ds.lookup nm = some z) (h0 : 0 ≤ x) (hv : (x, v) ∈ L ∨ (v = z ∧ ∀ p ∈ L, p.1 ≠ x)) :
  Rx ((ev ge m).cl (.fn 229) [.ref kd, .str nm, .int x] H) (po_data_get v H) := by
 obtain ⟨n, rfl⟩ : ∃ n, m = n + 50 := ⟨m - 50, by exact Nat.le_antisymm (ln1 146800768833601 163905539220841 [_,_] [] (Nat.sub_add_cancel (ln1 90112080521 90112080521 [_] [] hm))) (ln1 144408579220801 157515779220801 [_,_] [] (Nat.sub_add_cancel (ln1 90112080521 90112080521 [_] [] hm)))⟩;refine el21 (S.dict) fun p w hd => ?_;refine el13 (S.dfl) fun ds hdf e1 e2 => ?_;refine zcF (frWN0 (D.ref kd) (D.str nm) (D.int x)) ?_;refine zsK ?_;refine zsI ?_;refine ztC ?_;refine zN (.str nm) ?_;refine zG ?_;refine zN (.ref kd) ?_;refine at_attr (d := .ref mp) S.inst hd rfl (by kernel_rfl) (by kernel_rfl) ?_;refine k_in S.maps ?_;rcases M with ⟨he, rfl⟩ | ⟨r, j, he, M, -⟩
 ·rw [he];refine ite_no ?_;refine s_nil ?_;refine zsK ?_;refine zsR ?_;refine zM ?_;refine zG ?_;refine zN (.ref kd) ?_;refine at_attr (d := .ref df) S.inst hd rfl (by kernel_rfl) (by kernel_rfl) ?_;refine zmO hdf ?_;refine zlC ?_;refine zN (.str nm) ?_;refine l_nil ?_;refine m_get1 hdf ?_;rw [hz ds e1 e2.1];refine ⟨?_, rfl⟩;rcases hv with hv | ⟨rfl, -⟩
  ·cases hv
  ·rfl
 ·rw [he];refine ite_yes ?_;refine zsK ?_;refine zsR ?_;refine zM ?_;refine zX ?_;refine zG ?_;refine zN (.ref kd) ?_;refine at_attr (d := .ref mp) S.inst hd rfl (by kernel_rfl) (by kernel_rfl) ?_;refine zN (.str nm) ?_;refine g_dict S.maps he ?_;refine el23 (M.dict) fun s1 v1 hj1 zq1 zq2 => ?_;clear zq1;clear zq2;refine zmI M.inst (meth_of (f := 166) M.inst hj1 rfl (by kernel_rfl) (by kernel_rfl)) ?_;refine zlC ?_;refine zN (.int x) ?_;refine l_nil ?_;rcases hv with hv | ⟨rfl, hv⟩
  ·refine el23 (hL.find hv) fun A B zr1 hA hB => ?_;subst zr1;refine Rx.same (rm_get1_any (by exact fu (by decide)) M h0 hA hB) ?_;exact ⟨rfl, rfl⟩
  ·refine el23 (hL.split0 hv) fun A B zr1 hA hB => ?_;subst zr1;refine Rx.same (rm_get0_any (by exact fu (by decide)) M h0 hA hB) ?_;exact ⟨rfl, rfl⟩
end Mine
end

-- WO
section
namespace Mine
noncomputable abbrev Row := Int × Option Str × Option (List Str)
noncomputable def rowsL : List Row := [(1072, some "Cyrl", none), (97, some "Latn", none), (945, some "Grek", none), (32, some "Zyyy", none), (768, some "Zinh", none), (12540, some "Zyyy", some ["Hira", "Kana"]), (12354, some "Hira", none), (12450, some "Kana", none),
 (2385, some "Zinh", some ["Cyrl", "Deva", "Latn"]), (2406, some "Deva", some ["Deva", "Gujr", "Latn"]), (903, some "Zyyy", some ["Grek"]), (888, none, none)]
noncomputable def optS : Option Str → D
 | none => .none
 | some s => .str s
noncomputable def optL : Option (List Str) → D
 | none => .none
 | some l => .tup (l.map .str)
noncomputable abbrev rowD (r : Row) : D := .tup [.int r.1, optS r.2.1, optL r.2.2]
theorem rows_val : valAt 27 = .fl (rowsL.map rowD) := by kernel_rfl
noncomputable def own (r : Row) : Str := r.2.1.getD "Zzzz"
theorem rows_inj : ∀ r ∈ rowsL, ∀ r' ∈ rowsL, r.1 = r'.1 → r = r' := by decide +kernel
theorem rows_apart : rowsL.Pairwise fun r r' => r.1 + 1 < r'.1 ∨ r'.1 + 1 < r.1 := by decide +kernel
theorem rows_pos : ∀ r ∈ rowsL, 0 < r.1 ∧ r.1 < 1114111 := by decide +kernel
theorem rows_own : ∀ r ∈ rowsL, r.2.1 ≠ some ("Zzzz" : Str) ∧ (r.2.1 = none → r.2.2 = none) := by decide +kernel
theorem py_strs {H : AH} {n : Nat} : ∀ (l : List Str), omap (py H n) (l.map D.str) = some (l.map PyData.str)
 | [] => rfl
 | c :: cs => by
  rw [List.map_cons];unfold omap
  have : py H n (.str c) = some (.str c) := by cases n <;> rfl
  rw [this]; dsimp only; rw [py_strs cs]; rfl
theorem eq_strs (H : AH) (a b : Str) : isEq H (.str a) (.str b) = some (a == b) := by
 show some (PyData.eqv (.str a) (.str b)) = _
 rw [eqv_str]
theorem eq_none_tup (H : AH) (l : List Str) : isEq H .none (.tup (l.map .str)) = some false := by
 have : py H 3 (.tup (l.map .str)) = some (.tuple (l.map .str)) := by unfold py; dsimp only; rw [py_strs]; rfl
 unfold isEq;dsimp only;rw [this]
 show some (PyData.eqv .none (.tuple _)) = _
 simp [PyData.eqv]
structure Full (H : AH) (kd b : Nat) (done ts : List Row) (jd df mp : Nat) (es : List (Str × D)) (L1 L2 : List (Int × D)) : Prop where
 S : DataS H kd jd df mp es
 M1 : MapAt H es "sc" (.str "Zzzz") L1 b mp
 M2 : MapAt H es "scx" .none L2 b mp
 A1 : FarApart L1
 A2 : FarApart L2
 c1 : ∀ p, p ∈ L1 ↔ ∃ r ∈ done, r ∈ ts ∧ ∃ o, r.2.1 = some o ∧ p = (r.1, D.str o)
 c2 : ∀ p, p ∈ L2 ↔ ∃ r ∈ done, r ∈ ts ∧ r.2.1 ≠ none ∧ ∃ l, r.2.2 = some l ∧ p = (r.1, D.tup (l.map .str))
 n1 : L1.length ≤ done.length
 n2 : L2.length ≤ done.length
 n : es.length = (if (es.lookup ("sc" : Str)).isSome then 1 else 0) + (if (es.lookup ("scx" : Str)).isSome then 1 else 0)
 bm : b ≤ mp
 bp : es.lookup ("bpb" : Str) = none
theorem Full.keep {H H' : AH} {kd b : Nat} {done ts : List Row} {jd df mp : Nat} {es : List (Str × D)} {L1 L2 : List (Int × D)} (F : Full H kd b done ts jd df mp es L1 L2) (k : Keep H H') : Full H' kd b done ts jd df mp es L1 L2 :=
 { F with S := F.S.keep k, M1 := F.M1.keep k, M2 := F.M2.keep k }
theorem MapAt.but {H H' : AH} {es es' : List (Str × D)} {nm : Str} {z z' : D} {L : List (Int × D)} {b mp : Nat} (M : MapAt H es nm z L b mp) (kb : KeepBut (PutAt H b mp z') H H') (hz : z ≠ z') (he : es'.lookup nm = es.lookup nm) {e0 : List (Str × D)} (hm : H[mp]? = some (.dict e0)) : MapAt H' es' nm z L b mp := by
 rcases M with ⟨h, hL⟩ | ⟨r, j, h, M, hb, hj⟩
 ·exact .inl ⟨he.trans h, hL⟩
 ·refine el23 (M.dict) fun s v hd hs hv => ?_;refine .inr ⟨r, j, he.trans h, ⟨kb _ _ ?_ M.inst, ⟨s, v, kb _ _ ?_ hd, kb _ _ ?_ hs, kb _ _ ?_ hv⟩, M.len⟩, hb, hj⟩
  ·rintro (rfl | ⟨-, s', v', h'⟩)
   ·have := M.inst; rw [hm] at this; cases this
   ·have := M.inst; rw [h'] at this; cases this
  ·rintro (rfl | ⟨-, s', v', h'⟩)
   ·exact hj rfl
   ·rw [hd] at h';have := congrArg List.head? (AO.dict.inj (Option.some.inj h'));simp at this;exact hz this
  ·rintro (rfl | ⟨-, s', v', h'⟩)
   ·rw [hm] at hs; cases hs
   ·rw [h'] at hs; cases hs
  ·rintro (rfl | ⟨-, s', v', h'⟩)
   ·rw [hm] at hv; cases hv
   ·rw [h'] at hv; cases hv
theorem is_in_ints (H : AH) (x : Int) {t : Nat} {xs : List Int} (h : H[t]? = some (.list (xs.map .int))) : isIn H (.int x) (.ref t) = some (xs.any (· == x)) := by
 unfold isIn;dsimp only;rw [h];dsimp only;rw [py_ints]
 show some (List.any (xs.map PyData.int) _) = _
 rw [List.any_map];refine congrArg some (congrArg (fun f => xs.any f) ?_)
 funext y
 simp [eqv_int]
theorem any_row {ts : List Row} (hts : ∀ r ∈ ts, r ∈ rowsL) {r : Row} (hr : r ∈ rowsL) : (ts.map (·.1)).any (· == r.1) = decide (r ∈ ts) := by
 rw [Bool.eq_iff_iff];simp only [List.any_eq_true, decide_eq_true_eq, beq_iff_eq, List.mem_map];constructor
 ·intro zi1;refine el12 zi1 fun x zq2 e => ?_;clear zi1;refine el12 zq2 fun r' hr' zr3 => ?_;clear zq2;subst zr3;rw [← rows_inj r' (hts r' hr') r hr e];exact hr'
 ·intro h;exact in12 r.1 ⟨r, h, rfl⟩ rfl
theorem k_inl {H : AH} {x : Int} {t : Nat} {xs : List Int} {R : Bool → Prop} (h : H[t]? = some (.list (xs.map .int))) (q : R (xs.any (· == x))) : ∃ t', cmp H .In (.int x) (.ref t) = some t' ∧ R t' := ⟨_, is_in_ints H x h, q⟩
theorem Full.skip {H : AH} {kd b : Nat} {done ts : List Row} {jd df mp : Nat} {es : List (Str × D)} {L1 L2 : List (Int × D)} {x : Row} (F : Full H kd b done ts jd df mp es L1 L2) (h : x ∉ ts ∨ x.2.1 = none) : Full H kd b (done ++ [x]) ts jd df mp es L1 L2 := by
 refine { F with c1 := fun p => ?_, c2 := fun p => ?_, n1 := ?_, n2 := ?_ }
 ·rw [F.c1];constructor
  ·intro zi1; refine el12 zi1 fun r hr q => ?_; clear zi1; exact ⟨r, List.mem_append_left _ hr, q⟩
  ·intro zi1;refine el13 zi1 fun r hr ht zq2 => ?_;clear zi1;refine el12 zq2 fun o ho q => ?_;clear zq2;rcases List.mem_append.mp hr with hr | hr
   ·exact in13 r hr ht ⟨o, ho, q⟩
   ·rw [List.mem_singleton] at hr; subst hr;rcases h with h | h
    ·exact absurd ht h
    ·rw [h] at ho; cases ho
 ·rw [F.c2];constructor
  ·intro zi1; refine el12 zi1 fun r hr q => ?_; clear zi1; exact ⟨r, List.mem_append_left _ hr, q⟩
  ·intro zi1;refine el14 zi1 fun r hr ht ho q => ?_;clear zi1;rcases List.mem_append.mp hr with hr | hr
   ·exact in14 r hr ht ho q
   ·rw [List.mem_singleton] at hr; subst hr;rcases h with h | h
    ·exact absurd ht h
    ·exact absurd h ho
 ·have := F.n1; rw [List.length_append]; exact ln1 2293889601 1409601 [_,_,_] [] this
 ·have := F.n2; rw [List.length_append]; exact ln1 2293889601 1409601 [_,_,_] [] this
noncomputable abbrev textD (ts : List Row) : List D := (ts.map (·.1)).map .int
abbrev po_law_data (ts : List Row) (H : AH) : D → AH → Prop := fun d H' => ∃ kd jd df mp es L1 L2, d = .ref kd ∧ Full H' kd H.length rowsL ts jd df mp es L1 L2 ∧ Keep H H'
noncomputable def frWO0 (x0 : Mine.D) : Loc := [("text", some x0), ("kept", none), ("code", none), ("one", none), ("more", none)]
noncomputable def frWO1 (x0 x1 : Mine.D) : Loc := [("text", some x0), ("kept", some x1), ("code", none), ("one", none), ("more", none)]
noncomputable def frWO2 (x0 x1 : Mine.D) (x2 x3 x4 : Option Mine.D) : Loc := [("text", some x0), ("kept", some x1), ("code", x2), ("one", x3), ("more", x4)]
noncomputable abbrev ivWO0 (t : Nat) (ts : List Mine.Row) (H : AH) (jd kd df mp : Nat) : List Mine.D → Loc → AH → Prop := fun zr0 zl zh => ∃ zv0 zv1 zv2, zl = (frWO2 (Mine.D.ref t) (Mine.D.ref kd) zv0 zv1 zv2 : Loc) ∧ (fun _ _ _ r J => Keep H J ∧ ∃ pre rs es L1 L2, pre ++ rs = rowsL ∧ r = rs.map rowD ∧ Full J kd H.length pre ts jd df mp es L1 L2) zv0 zv1 zv2 zr0 zh
noncomputable def frWO3 (x0 x1 x2 x3 x4 : Mine.D) : Loc := [("text", some x0), ("kept", some x1), ("code", some x2), ("one", some x3), ("more", some x4)]
theorem law_data {m t : Nat} {ts : List Row} {H : AH} (hm : 100 ≤ m) (ht : H[t]? = some (.list (textD ts))) (hts : ∀ r ∈ ts, r ∈ rowsL) :
  Rx ((ev ge m).cl (.fn 279) [.ref t] H) (po_law_data ts H) := by
 obtain ⟨n, rfl⟩ : ∃ n, m = n + 100 := ⟨m - 100, by exact Nat.le_antisymm (ln1 146800896833601 163905542420841 [_,_] [] (Nat.sub_add_cancel (ln1 90112160521 90112160521 [_] [] hm))) (ln1 144408582420801 157515782420801 [_,_] [] (Nat.sub_add_cancel (ln1 90112160521 90112160521 [_] [] hm)))⟩;refine zcF (frWO0 (Mine.D.ref t)) ?_;refine zsK ?_;refine zsN ?_;refine zK (.cls 239) ?_;refine l_nil ?_;refine c_cls' rfl ?_;intro jd kd H1 k1 hj hr lj lr;refine (data_init (by exact fu (by decide)) hr hj).mono ?_;intro _ H2 zi1;refine el02 zi1 fun zr2 zq3 => ?_;clear zi1;subst zr2;refine el23 zq3 fun df mp S kb lmp => ?_;clear zq3;refine ⟨rfl, ?_⟩;have k2 : Keep H H2 := fun i o e => kb i o (by have := lt_of_at e; exact fun hq => ln3 1200 1601601 1409681 1475201 [_,_,_] [] hq lj this) (k1 i o e);have l1 := k1.len;refine zsL (frWO1 (Mine.D.ref t) (Mine.D.ref kd)) ?_;refine zsK ?_;refine zsF ?_;refine zN (valAt 27) ?_;refine in23 (rowsL.map rowD) none (by rw [rows_val]; rfl) (by decide +kernel) ?_;refine zlp (ivWO0 t ts H jd kd df mp) ?_ ?_ ?_
 ·intro d r _ J zi1;refine el33 zi1 fun v1 v2 v3 zr2 k zq3 => ?_;clear zi1;subst zr2;refine el53 zq3 fun pre rs es L1 L2 hp hr F => ?_;clear zq3;refine el23 (map_cons_inv hr) fun x rs zr1 zr2 zr3 => ?_;subst zr1;subst zr2;subst zr3
  have hx : x ∈ rowsL := by rw [← hp]; exact List.mem_append_right _ List.mem_cons_self
  have hp' : pre ++ [x] ++ rs = rowsL := by simpa using hp
  have hgap : ∀ r ∈ pre, r.1 + 1 < x.1 ∨ x.1 + 1 < r.1 := by
   have := rows_apart;rw [← hp] at this;exact fun r hr => (List.pairwise_append.mp this).2.2 r hr x List.mem_cons_self
  have hpl : pre.length ≤ 12 := by have := congrArg List.length hp; simp [rowsL] at this; exact ln1 57110401 6372460137857601 [_,_] [] this
  refine l_step ?_;refine zbT (frWO3 (Mine.D.ref t) (Mine.D.ref kd) (Mine.D.int x.fst) (Mine.optS x.snd.fst) (Mine.optL x.snd.snd)) ?_;refine zsK ?_;refine zsI ?_;refine t_bool ?_;refine ztA ?_;refine ztC ?_;refine zN (.int x.fst) ?_;refine zN (.ref t) ?_;refine k_inl (k _ _ ht) ?_;rw [any_row hts hx]
  by_cases hxt : x ∈ ts
  ·refine ite_t (by simpa using hxt) ?_;refine ztA ?_;refine ztC ?_;refine zN (Mine.optS x.snd.fst) ?_;refine zO ?_;refine k_isn ?_;obtain ⟨c, o, mo⟩ := x;have hpos := rows_pos _ hx;have hown := rows_own _ hx;dsimp only at hpos hown hgap ⊢
   cases o with
   | none =>
    refine ite_no ?_;refine ite_no ?_;refine s_nil ?_;refine s_nil ?_;exact ⟨rfl, _, _, _, rfl, k, _, rs, es, L1, L2, hp', rfl, F.skip (.inr rfl)⟩
   | some o =>
    refine ite_yes ?_;refine a_nil_and ?_;refine ite_yes ?_;refine zsK ?_;refine zsX ?_;refine zM ?_;refine zN (.ref kd) ?_;refine el21 (F.S.dict) fun p w hd => ?_;refine zmI F.S.inst (meth_of (f := 222) F.S.inst hd rfl (by kernel_rfl) (by kernel_rfl)) ?_;refine zlC ?_;refine zS ?_;refine zlC ?_;refine zN (.int c) ?_;refine zlC ?_;refine zN (.int c) ?_;refine zlC ?_;refine zN (Mine.optS (some o)) ?_;refine l_nil ?_;have lmp2 := F.bm
    have hs : ∀ p ∈ L1, p.1 + 1 < c ∨ c + 1 < p.1 := by
     intro p hp;refine el13 ((F.c1 p).mp hp) fun r hr zq1 zq2 => ?_;clear zq1;refine el12 zq2 fun o' zq3 zr4 => ?_;clear zq2;clear zq3;subst zr4;exact hgap r hr
    refine el23 (F.A1.split hs) fun A B zr1 hA hB => ?_;subst zr1
    have hes : es.length ≤ 2 := by have := F.n; split at this <;> split at this <;> omega
    have hn1 := F.n1
    have hnm : ("scx" : Str) ≠ "sc" := by decide +kernel
    refine (data_put (v := .str o) (b := H.length) (by exact fu (by decide)) F.S (by exact ln1 59222401 56470401 [_] [] hes) F.M1 (fun ds a b => a) k.len hpos.1 hpos.2 hA hB (by exact ln2 60182401 57110441 1409601 [_,_] [] hpl hn1) (fun H => by rw [eq_strs]; simpa using fun e => hown.1 (by rw [e]))).mono ?_;intro _ J1 zi1;refine el02 zi1 fun zr2 zq3 => ?_;clear zi1;subst zr2;refine el16 zq3 fun es1 S1 M1 i1 lk1 n1 kb1 => ?_;clear zq3
    have k1 : Keep H J1 := by
     intro i o hi;refine kb1 i o ?_ (k i o hi)
     rintro (rfl | ⟨h, -⟩)
     ·have := lt_of_at hi; exact ln2 1200 1409601 1472041 [_,_] [] lmp2 this
     ·have := lt_of_at hi; exact ln2 1200 1409601 1472041 [_,_] [] h this
    have M2 := F.M2.but kb1 (by simp) (lk1 _ hnm) F.S.maps;have A1 := F.A1.ins (v := .str o) hA hB
    have c1 : ∀ p, p ∈ A ++ (c, D.str o) :: B ↔ ∃ r ∈ pre ++ [(c, some o, mo)], r ∈ ts ∧ ∃ o, r.2.1 = some o ∧ p = (r.1, D.str o) := by
     intro p;have h := F.c1 p;rw [List.mem_append] at h;rw [List.mem_append, List.mem_cons];constructor
     ·rintro (h' | rfl | h')
      ·refine el12 (h.mp (.inl h')) fun r hr q => ?_; exact ⟨r, List.mem_append_left _ hr, q⟩
      ·exact in13 _ (List.mem_append_right _ List.mem_cons_self) hxt ⟨o, rfl, rfl⟩
      ·refine el12 (h.mp (.inr h')) fun r hr q => ?_; exact ⟨r, List.mem_append_left _ hr, q⟩
     ·intro zi1;refine el12 zi1 fun r hr q => ?_;clear zi1;rcases List.mem_append.mp hr with hr | hr
      ·rcases h.mpr ⟨r, hr, q⟩ with h' | h'
       ·exact .inl h'
       ·exact .inr (.inr h')
      ·rw [List.mem_singleton] at hr; subst hr;refine el02 q fun zq1 zq2 => ?_;clear q;clear zq1;refine el12 zq2 fun o' ho zr3 => ?_;clear zq2;subst zr3;cases ho;exact .inr (.inl rfl)
    have hn1' : (A ++ (c, D.str o) :: B).length ≤ (pre ++ [((c, some o, mo) : Row)]).length := by simp at hn1 ⊢; exact ln1 9395595249257857601 2258945601 [_,_,_] [] hn1
    have hn2 := F.n2;have hnn := F.n;rw [← lk1 _ hnm] at hnn;refine zsK ?_;refine zsI ?_;refine ztC ?_;refine zN (Mine.optL mo) ?_;refine zO ?_;refine k_isn ?_
    cases mo with
    | none =>
     refine ite_no ?_;refine s_nil ?_;refine s_nil ?_;refine s_nil ?_;refine ⟨rfl, _, _, _, rfl, k1, _, rs, es1, _, L2, hp', rfl, ⟨S1, M1, M2, A1, F.A2, c1, ?_, hn1', by rw [List.length_append]; exact ln1 2293889601 1409601 [_,_,_] [] hn2, ?_, F.bm, (lk1 _ (by decide +kernel)).trans F.bp⟩⟩
     ·intro p;rw [F.c2];constructor
      ·intro zi1; refine el12 zi1 fun r hr q => ?_; clear zi1; exact ⟨r, List.mem_append_left _ hr, q⟩
      ·intro zi1;refine el12 zi1 fun r hr q => ?_;clear zi1;rcases List.mem_append.mp hr with hr | hr
       ·exact in12 r hr q
       ·rw [List.mem_singleton] at hr; subst hr;refine el03 q fun zq1 zq2 zq3 => ?_;clear q;clear zq1;clear zq2;refine el12 zq3 fun l hl zq4 => ?_;clear zq3;clear zq4;cases hl
     ·rw [i1, n1, hnn]; simp; split <;> omega
    | some l =>
     refine ite_yes ?_;refine zsK ?_;refine zsX ?_;refine zM ?_;refine zN (.ref kd) ?_;refine el21 (S1.dict) fun p' w' hd1 => ?_;refine zmI S1.inst (meth_of (f := 222) S1.inst hd1 rfl (by kernel_rfl) (by kernel_rfl)) ?_;refine zlC ?_;refine zS ?_;refine zlC ?_;refine zN (.int c) ?_;refine zlC ?_;refine zN (.int c) ?_;refine zlC ?_;refine zN (Mine.optL (some l)) ?_;refine l_nil ?_
     have hs2 : ∀ p ∈ L2, p.1 + 1 < c ∨ c + 1 < p.1 := by
      intro p hp;refine el14 ((F.c2 p).mp hp) fun r hr zq1 zq2 zq3 => ?_;clear zq1;clear zq2;refine el12 zq3 fun l' zq4 zr5 => ?_;clear zq3;clear zq4;subst zr5;exact hgap r hr
     refine el23 (F.A2.split hs2) fun A2 B2 zr1 hA2 hB2 => ?_;subst zr1
     have hes1 : es1.length < 5 := by rw [n1]; split <;> omega
     refine (data_put (v := .tup (l.map .str)) (b := H.length) (by exact fu (by decide)) S1 hes1 M2 (fun ds a b => b) k1.len hpos.1 hpos.2 hA2 hB2 (by exact ln2 60182401 57110441 1409601 [_,_] [] hpl hn2) (fun H => eq_none_tup H l)).mono ?_;intro _ J2 zi1;refine el02 zi1 fun zr2 zq3 => ?_;clear zi1;subst zr2;refine el16 zq3 fun es2 S2 M2' i2 lk2 n2 kb2 => ?_;clear zq3
     have k2 : Keep H J2 := by
      intro i o hi;refine kb2 i o ?_ (k1 i o hi)
      rintro (rfl | ⟨h, -⟩)
      ·have := lt_of_at hi; exact ln2 1200 1409601 1472041 [_,_] [] lmp2 this
      ·have := lt_of_at hi; exact ln2 1200 1409601 1472041 [_,_] [] h this
     have M1' := M1.but kb2 (by simp) (lk2 _ hnm.symm) S1.maps;refine s_nil ?_;refine s_nil ?_;refine s_nil ?_;refine ⟨rfl, _, _, _, rfl, k2, _, rs, es2, _, _, hp', rfl, ⟨S2, M1', M2', A1, F.A2.ins (v := .tup (l.map .str)) hA2 hB2, c1, ?_, hn1', by simp at hn2 ⊢; exact ln1 9395595249257857601 2258945601 [_,_,_] [] hn2, ?_, F.bm, ((lk2 _ (by decide +kernel)).trans (lk1 _ (by decide +kernel))).trans F.bp⟩⟩
     ·intro p;have h := F.c2 p;rw [List.mem_append] at h;rw [List.mem_append, List.mem_cons];constructor
      ·rintro (h' | rfl | h')
       ·refine el12 (h.mp (.inl h')) fun r hr q => ?_; exact ⟨r, List.mem_append_left _ hr, q⟩
       ·exact in14 _ (List.mem_append_right _ List.mem_cons_self) hxt (by simp) ⟨l, rfl, rfl⟩
       ·refine el12 (h.mp (.inr h')) fun r hr q => ?_; exact ⟨r, List.mem_append_left _ hr, q⟩
      ·intro zi1;refine el12 zi1 fun r hr q => ?_;clear zi1;rcases List.mem_append.mp hr with hr | hr
       ·rcases h.mpr ⟨r, hr, q⟩ with h' | h'
        ·exact .inl h'
        ·exact .inr (.inr h')
       ·rw [List.mem_singleton] at hr; subst hr;refine el03 q fun zq1 zq2 zq3 => ?_;clear q;clear zq1;clear zq2;refine el12 zq3 fun l' hl zr4 => ?_;clear zq3;subst zr4;cases hl;exact .inr (.inl rfl)
     ·rw [i2, n2, lk2 _ hnm.symm, i1, n1, hnn]; simp; split <;> split <;> omega
  ·refine ite_f (by simpa using hxt) ?_;refine ite_no ?_;refine s_nil ?_;refine s_nil ?_;exact ⟨rfl, _, _, _, rfl, k, _, rs, es, L1, L2, hp', rfl, F.skip (.inl hxt)⟩
 ·intro l J zi1;refine el33 zi1 fun v1 v2 v3 zr2 k zq3 => ?_;clear zi1;subst zr2;refine el53 zq3 fun pre rs es L1 L2 hp hr F => ?_;clear zq3;rw [map_nil_inv hr, List.append_nil] at hp;subst hp;refine zsK ?_;refine zsR ?_;refine zN (.ref kd) ?_;exact in73 kd jd df mp es L1 L2 rfl F k
 ·refine in33 _ _ _ rfl k2 ⟨[], rowsL, [], [], [], rfl, rfl, ⟨S, .inl ⟨rfl, rfl⟩, .inl ⟨rfl, rfl⟩, .nil, .nil, by simp, by simp, by simp, by simp, by simp, by exact ln2 1409601 1409681 1411201 [_,_,_] [] lmp l1, rfl⟩⟩
end Mine
end

-- WP
section
namespace Mine
noncomputable def Kept (H : AH) (kd : Nat) (ts : List Row) : Prop := ∃ b jd df mp es L1 L2, Full H kd b rowsL ts jd df mp es L1 L2
theorem Kept.keep {H H' : AH} {kd : Nat} {ts : List Row} (K : Kept H kd ts) (k : Keep H H') : Kept H' kd ts :=
 let ⟨b, jd, df, mp, es, L1, L2, F⟩ := K; ⟨b, jd, df, mp, es, L1, L2, F.keep k⟩
theorem Kept.meth {H : AH} {kd : Nat} {ts : List Row} (K : Kept H kd ts) : ∃ jd, H[kd]? = some (.inst 239 jd) ∧ methOf ge H kd "get" = some 229 := by
 refine el71 K fun b jd df mp es L1 L2 F => ?_;clear K;refine el21 (F.S.dict) fun p w hd => ?_;exact in12 jd F.S.inst (meth_of F.S.inst hd rfl (by kernel_rfl) (by kernel_rfl))
abbrev po_kept_sc (r : Row) (H : AH) : D → AH → Prop := fun d H' => d = .str (own r) ∧ H' = H
theorem kept_sc {m kd : Nat} {ts : List Row} {r : Row} {H : AH} (hm : 50 ≤ m) (K : Kept H kd ts) (hr : r ∈ rowsL) (ht : r ∈ ts) : Rx ((ev ge m).cl (.fn 229) [.ref kd, .str "sc", .int r.1] H) (po_kept_sc r H) := by
 refine el71 K fun b jd df mp es L1 L2 F => ?_;clear K;refine data_get hm F.S F.M1 F.A1 (fun ds a b => a) (Int.le_of_lt (rows_pos r hr).1) ?_
 rcases h : r.2.1 with _ | o
 ·refine .inr ⟨by unfold own; rw [h]; rfl, ?_⟩;intro p hp e;refine el13 ((F.c1 p).mp hp) fun r' hr' zq1 zq2 => ?_;clear zq1;refine el12 zq2 fun o ho zr3 => ?_;clear zq2;subst zr3;rw [rows_inj r' hr' r hr e, h] at ho;cases ho
 ·refine .inl ((F.c1 _).mpr ⟨r, hr, ht, o, h, ?_⟩);unfold own; rw [h]; rfl
abbrev po_kept_scx (r : Row) (H : AH) : D → AH → Prop := fun d H' => d = optL r.2.2 ∧ H' = H
theorem kept_scx {m kd : Nat} {ts : List Row} {r : Row} {H : AH} (hm : 50 ≤ m) (K : Kept H kd ts) (hr : r ∈ rowsL) (ht : r ∈ ts) : Rx ((ev ge m).cl (.fn 229) [.ref kd, .str "scx", .int r.1] H) (po_kept_scx r H) := by
 refine el71 K fun b jd df mp es L1 L2 F => ?_;clear K;refine data_get hm F.S F.M2 F.A2 (fun ds a b => b) (Int.le_of_lt (rows_pos r hr).1) ?_
 rcases h : r.2.2 with _ | l
 ·refine .inr ⟨rfl, ?_⟩;intro p hp e;refine el14 ((F.c2 p).mp hp) fun r' hr' zq1 zq2 zq3 => ?_;clear zq1;clear zq2;refine el12 zq3 fun o ho zr4 => ?_;clear zq3;subst zr4;rw [rows_inj r' hr' r hr e, h] at ho;cases ho
 ·refine .inl ((F.c2 _).mpr ⟨r, hr, ht, ?_, l, h, rfl⟩);intro h1;rw [(rows_own r hr).2 h1] at h;cases h
abbrev po_kept_bpb (H : AH) : D → AH → Prop := fun d H' => d = .none ∧ H' = H
noncomputable def frWP0 (x0 x1 : D) : Loc := [("self", some x0), ("name", some (.str ("bpb"))), ("code", some x1)]
theorem kept_bpb {m kd : Nat} {ts : List Row} {x : Int} {H : AH} (hm : 50 ≤ m) (K : Kept H kd ts) : Rx ((ev ge m).cl (.fn 229) [.ref kd, .str "bpb", .int x] H) (po_kept_bpb H) := by
 obtain ⟨n, rfl⟩ : ∃ n, m = n + 50 := ⟨m - 50, by exact Nat.le_antisymm (ln1 146800768833601 163905539220841 [_,_] [] (Nat.sub_add_cancel (ln1 90112080521 90112080521 [_] [] hm))) (ln1 144408579220801 157515779220801 [_,_] [] (Nat.sub_add_cancel (ln1 90112080521 90112080521 [_] [] hm)))⟩;refine el71 K fun b jd df mp es L1 L2 F => ?_;clear K;have S := F.S;refine el21 (S.dict) fun p w hd => ?_;refine el13 (S.dfl) fun ds hdf e1 e2 => ?_;refine zcF (frWP0 (D.ref kd) (D.int x)) ?_;refine zsK ?_;refine zsI ?_;refine ztC ?_;refine zN (.str (Str.ofString "bpb")) ?_;refine zG ?_;refine zN (.ref kd) ?_;refine at_attr (d := .ref mp) S.inst hd rfl (by kernel_rfl) (by kernel_rfl) ?_;refine k_in S.maps ?_;rw [F.bp];refine ite_no ?_;refine s_nil ?_;refine zsK ?_;refine zsR ?_;refine zM ?_;refine zG ?_;refine zN (.ref kd) ?_;refine at_attr (d := .ref df) S.inst hd rfl (by kernel_rfl) (by kernel_rfl) ?_;refine zmO hdf ?_;refine zlC ?_;refine zN (.str (Str.ofString "bpb")) ?_;refine l_nil ?_;refine m_get1 hdf ?_;rw [e2.2];exact ⟨rfl, rfl⟩
theorem rows_filter : ∀ r ∈ rowsL, rowsL.filter (fun r' => r'.1 == r.1) = [r] := by decide +kernel
theorem eq_ints (H : AH) (a b : Int) : isEq H (.int a) (.int b) = some (a == b) := by
 show some (PyData.eqv (.int a) (.int b)) = _
 rw [eqv_int]
theorem is_in_strs (H : AH) (x : Str) (l : List Str) : isIn H (.str x) (.tup (l.map .str)) = some (l.any (· == x)) := by
 unfold isIn;dsimp only;rw [py_strs]
 show some (List.any (l.map PyData.str) _) = _
 rw [List.any_map];refine congrArg some (congrArg (fun f => l.any f) ?_)
 funext y
 simp [eqv_str]
theorem k_ins {H : AH} {x : Str} (l : List Str) {R : Bool → Prop} (q : R (l.any (· == x))) : ∃ t', cmp H .In (.str x) (.tup (l.map .str)) = some t' ∧ R t' := ⟨_, is_in_strs H x l, q⟩
theorem k_nins {H : AH} {x : Str} (l : List Str) {R : Bool → Prop} (q : R (!l.any (· == x))) : ∃ t', cmp H .NotIn (.str x) (.tup (l.map .str)) = some t' ∧ R t' := ⟨_, by show (isIn _ _ _).map _ = _; rw [is_in_strs]; rfl, q⟩
theorem filter_snoc {α : Type} (p : α → Bool) (l : List α) (x : α) : (l ++ [x]).filter p = if p x then l.filter p ++ [x] else l.filter p := by
 rw [List.filter_append]
 cases h : p x <;> simp [h]
abbrev po_law_own (r : Row) (H : AH) : D → AH → Prop := fun d H' => d = .str (own r) ∧ Keep H H'
noncomputable def frWP1 (x0 : D) : Loc := [("code", some x0), ("found", none)]
noncomputable def frWP2 (x0 : D) : Loc := [(".0", none), ("number", none), ("one", none), ("more", none), ("code", some x0), ("found", none)]
noncomputable def frWP3 (x0 x1 x2 : Option D) (x3 : D) : Loc := [(".0", none), ("number", x0), ("one", x1), ("more", x2), ("code", some x3), ("found", none)]
noncomputable abbrev ivWP0 (r : Row) (H : AH) : List D → List D → Loc → AH → Prop := fun zr0 zr1 zl zh => ∃ zv0 zv1 zv2, zl = (frWP3 zv0 zv1 zv2 (D.int r.fst) : Loc) ∧ (fun _ _ _ rr acc J => J = H ∧ ∃ pre rs, pre ++ rs = rowsL ∧ rr = rs.map rowD ∧ acc = (pre.filter (fun r' => r'.1 == r.1)).map (fun r => optS r.2.1)) zv0 zv1 zv2 zr0 zr1 zh
noncomputable def frWP4 (x0 x1 x2 x3 : D) : Loc := [(".0", none), ("number", some x0), ("one", some x1), ("more", some x2), ("code", some x3), ("found", none)]
noncomputable def frWP5 (x0 x1 : D) : Loc := [("code", some x0), ("found", some x1)]
theorem law_own {m : Nat} {r : Row} {H : AH} (hm : 30 ≤ m) (hr : r ∈ rowsL) : Rx ((ev ge m).cl (.fn 284) [.int r.1] H) (po_law_own r H) := by
 obtain ⟨n, rfl⟩ : ∃ n, m = n + 30 := ⟨m - 30, by exact Nat.le_antisymm (ln1 91828097601 102442902441 [_,_] [] (Nat.sub_add_cancel (ln1 56368561 56368561 [_] [] hm))) (ln1 90257302401 98449302401 [_,_] [] (Nat.sub_add_cancel (ln1 56368561 56368561 [_] [] hm)))⟩;refine zcF (frWP1 (D.int r.fst)) ?_;refine zsK ?_;refine zsN ?_;refine zX ?_;refine zY (frWP2 (D.int r.fst)) ?_;refine zN (valAt 27) ?_;refine in23 (rowsL.map rowD) none (by rw [rows_val]; rfl) (by decide +kernel) ?_;refine zcp (ivWP0 r H) ?_ ?_ ?_
 ·intro d rr acc _ J zi1;refine el33 zi1 fun v1 v2 v3 zr2 zr3 zq4 => ?_;clear zi1;subst zr2;subst zr3;refine el23 zq4 fun pre rs hp hrr zr5 => ?_;clear zq4;subst zr5;refine el23 (map_cons_inv hrr) fun x rs zr1 zr2 zr3 => ?_;subst zr1;subst zr2;subst zr3;refine zc1 ?_;refine zbT (frWP4 (D.int x.fst) (optS x.snd.fst) (optL x.snd.snd) (D.int r.fst)) ?_;refine ztC ?_;refine zN (.int x.fst) ?_;refine zN (.int r.fst) ?_;refine k_eq (eq_ints _ _ _) ?_
  by_cases hx : x.1 = r.1
  ·refine ite_t (by simpa using hx) ?_;refine zN (optS x.snd.fst) ?_;refine ⟨rfl, _, _, _, rfl, rfl, pre ++ [x], rs, by simpa using hp, rfl, ?_⟩;dsimp only;rw [filter_snoc, if_pos (by simpa using hx), List.map_append]
   rfl
  ·refine ite_f (by simpa using hx) ?_;refine ⟨rfl, _, _, _, rfl, rfl, pre ++ [x], rs, by simpa using hp, rfl, ?_⟩;dsimp only;rw [filter_snoc, if_neg (by simpa using hx)]
 ·intro ys l J zi1;refine el33 zi1 fun v1 v2 v3 zr2 zr3 zq4 => ?_;clear zi1;subst zr2;subst zr3;refine el23 zq4 fun pre rs hp hrr hy => ?_;clear zq4;rw [map_nil_inv hrr, List.append_nil] at hp;subst hp;rw [rows_filter r hr] at hy
  have hy : ys = [optS r.2.1] := by simpa using hy
  subst hy;refine ⟨by simp [maxLen], ?_⟩;intro a H1 k1 h1 l1;refine zI ?_;refine g_list h1 (by simp [maxLen]) (nth_nat (k := 0) rfl) ?_;refine zsL (frWP5 (D.int r.fst) (optS r.snd.fst)) ?_;refine zsK ?_;refine zsR ?_;refine zF ?_;refine ztC ?_;refine zN (optS r.snd.fst) ?_;refine zO ?_;refine k_is ?_;obtain ⟨c, o, mo⟩ := r
  cases o with
  | none =>
   refine ite_yes ?_;refine zS ?_;exact ⟨rfl, k1⟩
  | some o =>
   refine ite_no ?_;refine zN (optS (c, some o, mo).snd.fst) ?_;exact ⟨rfl, k1⟩
 ·exact in33 _ _ _ rfl rfl ⟨[], rowsL, rfl, rfl, rfl⟩
end Mine
end

-- WQ
section
namespace Mine
noncomputable abbrev Lot := Option (List Str)
noncomputable def lot (r : Row) : Lot := match r.2.2 with
 | some l => some l
 | none => if own r = "Zyyy" ∨ own r = "Zinh" then none else some [own r]
noncomputable def comb : Lot → Lot → Lot
 | none, b => b
 | some a, none => some a
 | some a, some b => some (a.filter fun w => b.any (· == w))
noncomputable def Short (o : Lot) : Prop := ∀ l, o = some l → l.length ≤ 10
noncomputable def frWQ0 (x0 : D) : Loc := [("code", some x0), ("more", none)]
noncomputable def frWQ1 (x0 : D) : Loc := [(".0", none), ("row", none), ("code", some x0), ("more", none)]
noncomputable def frWQ2 (x0 : Option D) (x1 : D) : Loc := [(".0", none), ("row", x0), ("code", some x1), ("more", none)]
noncomputable abbrev ivWQ0 (r : Row) (H : AH) : List D → List D → Loc → AH → Prop := fun zr0 zr1 zl zh => ∃ zv0, zl = (frWQ2 zv0 (D.int r.fst) : Loc) ∧ (fun _ rr acc J => J = H ∧ ∃ pre rs, pre ++ rs = rowsL ∧ rr = rs.map rowD ∧ acc = (pre.filter (fun r' => r'.1 == r.1)).map (fun r => optL r.2.2)) zv0 zr0 zr1 zh
noncomputable def frWQ3 (x0 x1 : D) : Loc := [(".0", none), ("row", some x0), ("code", some x1), ("more", none)]
noncomputable def frWQ4 (x0 x1 : D) : Loc := [("code", some x0), ("more", some x1)]
theorem law_lot {m : Nat} {r : Row} {H : AH} (hm : 50 ≤ m) (hr : r ∈ rowsL) : Rx ((ev ge m).cl (.fn 289) [.int r.1] H) fun d H' => d = optL (lot r) ∧ Keep H H' := by
 obtain ⟨n, rfl⟩ : ∃ n, m = n + 50 := ⟨m - 50, by exact Nat.le_antisymm (ln1 146800768833601 163905539220841 [_,_] [] (Nat.sub_add_cancel (ln1 90112080521 90112080521 [_] [] hm))) (ln1 144408579220801 157515779220801 [_,_] [] (Nat.sub_add_cancel (ln1 90112080521 90112080521 [_] [] hm)))⟩;refine zcF (frWQ0 (D.int r.fst)) ?_;refine zsK ?_;refine zsN ?_;refine zX ?_;refine zY (frWQ1 (D.int r.fst)) ?_;refine zN (valAt 27) ?_;refine in23 (rowsL.map rowD) none (by rw [rows_val]; rfl) (by decide +kernel) ?_;refine zcp (ivWQ0 r H) ?_ ?_ ?_
 ·intro d rr acc _ J zi1;refine el13 zi1 fun v1 zr2 zr3 zq4 => ?_;clear zi1;subst zr2;subst zr3;refine el23 zq4 fun pre rs hp hrr zr5 => ?_;clear zq4;subst zr5;refine el23 (map_cons_inv hrr) fun x rs zr1 zr2 zr3 => ?_;subst zr1;subst zr2;subst zr3;refine zc1 ?_;refine zbT (frWQ3 (rowD x) (D.int r.fst)) ?_;refine ztC ?_;refine zX ?_;refine zN (rowD x) ?_;refine zI ?_;refine g_tup (by simp [maxLen]) (nth_nat (k := 0) rfl) ?_;refine zN (.int r.fst) ?_;refine k_eq (eq_ints _ _ _) ?_
  by_cases hx : x.1 = r.1
  ·refine ite_t (by simpa using hx) ?_;refine zX ?_;refine zN (rowD x) ?_;refine zI ?_;refine g_tup (by simp [maxLen]) (nth_nat (k := 2) rfl) ?_;refine ⟨rfl, _, rfl, rfl, pre ++ [x], rs, by simpa using hp, rfl, ?_⟩;dsimp only;rw [filter_snoc, if_pos (by simpa using hx), List.map_append]
   rfl
  ·refine ite_f (by simpa using hx) ?_;refine ⟨rfl, _, rfl, rfl, pre ++ [x], rs, by simpa using hp, rfl, ?_⟩;dsimp only;rw [filter_snoc, if_neg (by simpa using hx)]
 ·intro ys l J zi1;refine el13 zi1 fun v1 zr2 zr3 zq4 => ?_;clear zi1;subst zr2;subst zr3;refine el23 zq4 fun pre rs hp hrr hy => ?_;clear zq4;rw [map_nil_inv hrr, List.append_nil] at hp;subst hp;rw [rows_filter r hr] at hy
  have hy : ys = [optL r.2.2] := by simpa using hy
  subst hy;refine ⟨by simp [maxLen], ?_⟩;intro a H1 k1 h1 l1;refine zI ?_;refine g_list h1 (by simp [maxLen]) (nth_nat (k := 0) rfl) ?_;refine zsL (frWQ4 (D.int r.fst) (optL r.snd.snd)) ?_;refine zsK ?_;refine zsI ?_;refine ztC ?_;refine zN (optL r.snd.snd) ?_;refine zO ?_;refine k_isn ?_;unfold lot
  rcases h : r.2.2 with _ | l
  ·dsimp only;rw [show optL none = .none from rfl];refine ite_no ?_;refine s_nil ?_;refine zsK ?_;refine zsR ?_;refine zF ?_;refine ztC ?_;refine zK (.fn 284) ?_;refine zlC ?_;refine zN (.int r.fst) ?_;refine l_nil ?_;refine (law_own (by exact ln0 375823899038138928561 [_] []) hr).mono ?_;intro _ H2 zi1;refine el02 zi1 fun zr2 k2 => ?_;clear zi1;subst zr2;refine zT ?_;refine zlC ?_;refine zS ?_;refine zlC ?_;refine zS ?_;refine l_nil ?_;refine k_ins ["Zyyy", "Zinh"] ?_
   by_cases hc : own r = "Zyyy" ∨ own r = "Zinh"
   ·rw [if_pos hc];refine ite_t (by simp only [List.any_cons, List.any_nil, Bool.or_false, Bool.or_eq_true, beq_iff_eq]; exact hc.imp Eq.symm Eq.symm) ?_;refine zO ?_;exact ⟨rfl, k1.trans k2⟩
   ·rw [if_neg hc];refine ite_f (by simp only [List.any_cons, List.any_nil, Bool.or_false, Bool.or_eq_true, beq_iff_eq]; exact fun h => hc (h.imp Eq.symm Eq.symm)) ?_;refine zT ?_;refine zlC ?_;refine zK (.fn 284) ?_;refine zlC ?_;refine zN (.int r.fst) ?_;refine l_nil ?_;refine (law_own (by exact ln0 375823899038138928561 [_] []) hr).mono ?_;intro _ H3 zi1;refine el02 zi1 fun zr2 k3 => ?_;clear zi1;subst zr2;refine l_nil ?_;exact ⟨rfl, (k1.trans k2).trans k3⟩
  ·dsimp only;rw [show optL (some l) = .tup (l.map .str) from rfl];refine ite_yes ?_;refine zsK ?_;refine zsR ?_;refine zN (.tup (List.map D.str l)) ?_;exact ⟨rfl, k1⟩
 ·exact in13 _ rfl rfl ⟨[], rowsL, rfl, rfl, rfl⟩
theorem w_tuple {H : AH} {i : Nat} {ds : List D} {Q : D → AH → Prop} (h : H[i]? = some (.list ds)) (hl : ds.length ≤ maxLen) (q : Q (.tup ds) H) : Rx (bcall H .tuple [.ref i]) Q :=
 ⟨_, _, by unfold bcall; dsimp only; rw [listAt_of h]; dsimp only; rw [if_pos hl], q⟩
set_option tactic.hygienic true in
theorem comb_len {a b : Lot} (ha : Short a) (hb : Short b) : Short (comb a b) := by
 intro l h
 cases a with
 | none => exact hb l h
 | some a =>
  cases b with
  | none => exact ha l h
  | some b =>
   cases h;have := ha a rfl;have := List.length_filter_le (fun w => b.any (· == w)) a;exact ln2 56982401 56982441 1409601 [_,_] [] ‹_› this
abbrev po_law_common (a b : Lot) (H : AH) : D → AH → Prop := fun d H' => d = optL (comb a b) ∧ Keep H H'
noncomputable def frWQ5 (x0 : D) : Loc := [("one", some .none), ("other", some x0)]
noncomputable def frWQ6 (x0 : D) : Loc := [("one", some x0), ("other", some .none)]
noncomputable def frWQ7 (x0 x1 : D) : Loc := [("one", some x0), ("other", some x1)]
noncomputable def frWQ8 (x0 x1 : D) : Loc := [(".0", none), ("word", none), ("one", some x0), ("other", some x1)]
noncomputable def frWQ9 (x0 : Option D) (x1 x2 : D) : Loc := [(".0", none), ("word", x0), ("one", some x1), ("other", some x2)]
noncomputable abbrev ivWQ1 (H : AH) (a b : List Str) : List D → List D → Loc → AH → Prop := fun zr0 zr1 zl zh => ∃ zv0, zl = (frWQ9 zv0 (D.tup (List.map D.str a)) (D.tup (List.map D.str b)) : Loc) ∧ (fun _ rr acc J => J = H ∧ ∃ pre rs, pre ++ rs = a ∧ rr = rs.map D.str ∧ acc = (pre.filter fun w => b.any (· == w)).map D.str) zv0 zr0 zr1 zh
noncomputable def frWQ10 (x0 x1 x2 : D) : Loc := [(".0", none), ("word", some x0), ("one", some x1), ("other", some x2)]
theorem law_common {m : Nat} {a b : Lot} {H : AH} (hm : 30 ≤ m) (ha : Short a) (hb : Short b) : Rx ((ev ge m).cl (.fn 294) [optL a, optL b] H) (po_law_common a b H) := by
 obtain ⟨n, rfl⟩ : ∃ n, m = n + 30 := ⟨m - 30, by exact Nat.le_antisymm (ln1 91828097601 102442902441 [_,_] [] (Nat.sub_add_cancel (ln1 56368561 56368561 [_] [] hm))) (ln1 90257302401 98449302401 [_,_] [] (Nat.sub_add_cancel (ln1 56368561 56368561 [_] [] hm)))⟩
 cases a with
 | none =>
  rw [show optL none = .none from rfl];refine zcF (frWQ5 (optL b)) ?_;refine zsK ?_;refine zsI ?_;refine t_bool ?_;refine ztO ?_;refine ztC ?_;refine zN .none ?_;refine zO ?_;refine k_is ?_;refine ite_yes ?_;refine ite_yes ?_;refine zsK ?_;refine zsR ?_;refine zF ?_;refine ztC ?_;refine zN .none ?_;refine zO ?_;refine k_is ?_;refine ite_yes ?_;refine zN (optL b) ?_;exact ⟨rfl, .refl _⟩
 | some a =>
  cases b with
  | none =>
   rw [show optL none = .none from rfl, show optL (some a) = .tup (a.map .str) from rfl];refine zcF (frWQ6 (D.tup (List.map D.str a))) ?_;refine zsK ?_;refine zsI ?_;refine t_bool ?_;refine ztO ?_;refine ztC ?_;refine zN (.tup (List.map D.str a)) ?_;refine zO ?_;refine k_is ?_;refine ite_no ?_;refine ztO ?_;refine ztC ?_;refine zN .none ?_;refine zO ?_;refine k_is ?_;refine ite_yes ?_;refine ite_yes ?_;refine zsK ?_;refine zsR ?_;refine zF ?_;refine ztC ?_;refine zN (.tup (List.map D.str a)) ?_;refine zO ?_;refine k_is ?_;refine ite_no ?_;refine zN (.tup (List.map D.str a)) ?_;exact ⟨rfl, .refl _⟩
  | some b =>
   rw [show optL (some b) = .tup (b.map .str) from rfl, show optL (some a) = .tup (a.map .str) from rfl];have la := ha a rfl;have lb := hb b rfl;refine zcF (frWQ7 (D.tup (List.map D.str a)) (D.tup (List.map D.str b))) ?_;refine zsK ?_;refine zsI ?_;refine t_bool ?_;refine ztO ?_;refine ztC ?_;refine zN (.tup (List.map D.str a)) ?_;refine zO ?_;refine k_is ?_;refine ite_no ?_;refine ztO ?_;refine ztC ?_;refine zN (.tup (List.map D.str b)) ?_;refine zO ?_;refine k_is ?_;refine ite_no ?_;refine a_nil_or ?_;refine ite_no ?_;refine s_nil ?_;refine zsK ?_;refine zsR ?_;refine zK (.bi Bi.tuple) ?_;refine zlC ?_;refine zY (frWQ8 (D.tup (List.map D.str a)) (D.tup (List.map D.str b))) ?_;refine zN (.tup (List.map D.str a)) ?_;refine in23 _ none rfl (by refine lm ?_; exact ln1 90374164801 56982401 [_] [] la) ?_;refine zcp (ivWQ1 H a b) ?_ ?_ ?_
   ·intro d rr acc _ J zi1;refine el13 zi1 fun v1 zr2 zr3 zq4 => ?_;clear zi1;subst zr2;subst zr3;refine el23 zq4 fun pre rs hp hrr zr5 => ?_;clear zq4;subst zr5;refine el23 (map_cons_inv hrr) fun x rs zr1 zr2 zr3 => ?_;subst zr1;subst zr2;subst zr3;refine zc1 ?_;refine zbT (frWQ10 (D.str x) (D.tup (List.map D.str a)) (D.tup (List.map D.str b))) ?_;refine ztC ?_;refine zN (.str x) ?_;refine zN (.tup (List.map D.str b)) ?_;refine k_ins b ?_
    cases hx : b.any (· == x) with
    | true =>
     refine ite_yes ?_;refine zN (.str x) ?_;refine ⟨rfl, _, rfl, rfl, pre ++ [x], rs, by simpa using hp, rfl, ?_⟩;rw [filter_snoc, if_pos hx, List.map_append]
     rfl
    | false =>
     refine ite_no ?_;refine ⟨rfl, _, rfl, rfl, pre ++ [x], rs, by simpa using hp, rfl, ?_⟩;rw [filter_snoc, if_neg (by simp [hx])]
   ·intro ys l J zi1;refine el13 zi1 fun v1 zr2 zr3 zq4 => ?_;clear zi1;subst zr2;subst zr3;refine el23 zq4 fun pre rs hp hrr hy => ?_;clear zq4;rw [map_nil_inv hrr, List.append_nil] at hp;subst hp
    have hy : ys = (pre.filter fun w => b.any (· == w)).map D.str := by simpa using hy
    subst hy;have hl := List.length_filter_le (fun w => b.any (· == w)) pre;refine ⟨by refine lm ?_; exact ln2 90374164801 56982441 1409601 [_,_] [] la hl, ?_⟩;intro q H1 k1 h1 l1;refine l_nil ?_;refine c_bi ?_;refine w_tuple h1 (by refine lm ?_; exact ln2 90374164801 56982441 1409601 [_,_] [] la hl) ?_;exact ⟨rfl, k1⟩
   ·exact in13 _ rfl rfl ⟨[], a, rfl, rfl, rfl⟩
abbrev po_scripts_met (a b : Lot) (H : AH) : D → AH → Prop := fun d H' => d = optL (comb a b) ∧ Keep H H'
noncomputable def frWQ11 (x0 x1 : D) : Loc := [(".0", none), ("name", none), ("one", some x0), ("other", some x1)]
noncomputable def frWQ12 (x0 : Option D) (x1 x2 : D) : Loc := [(".0", none), ("name", x0), ("one", some x1), ("other", some x2)]
noncomputable abbrev ivWQ2 (H : AH) (a b : List Str) : List D → List D → Loc → AH → Prop := fun zr0 zr1 zl zh => ∃ zv0, zl = (frWQ12 zv0 (D.tup (List.map D.str a)) (D.tup (List.map D.str b)) : Loc) ∧ (fun _ rr acc J => J = H ∧ ∃ pre rs, pre ++ rs = a ∧ rr = rs.map D.str ∧ acc = (pre.filter fun w => b.any (· == w)).map D.str) zv0 zr0 zr1 zh
noncomputable def frWQ13 (x0 x1 x2 : D) : Loc := [(".0", none), ("name", some x0), ("one", some x1), ("other", some x2)]
theorem scripts_met {m : Nat} {a b : Lot} {H : AH} (hm : 30 ≤ m) (ha : Short a) (hb : Short b) : Rx ((ev ge m).cl (.fn 48) [optL a, optL b] H) (po_scripts_met a b H) := by
 obtain ⟨n, rfl⟩ : ∃ n, m = n + 30 := ⟨m - 30, by exact Nat.le_antisymm (ln1 91828097601 102442902441 [_,_] [] (Nat.sub_add_cancel (ln1 56368561 56368561 [_] [] hm))) (ln1 90257302401 98449302401 [_,_] [] (Nat.sub_add_cancel (ln1 56368561 56368561 [_] [] hm)))⟩
 cases a with
 | none =>
  rw [show optL none = .none from rfl];refine zcF (frWQ5 (optL b)) ?_;refine zsK ?_;refine zsI ?_;refine ztC ?_;refine zN .none ?_;refine zO ?_;refine k_is ?_;refine ite_yes ?_;refine zsK ?_;refine zsR ?_;refine zN (optL b) ?_;exact ⟨rfl, .refl _⟩
 | some a =>
  cases b with
  | none =>
   rw [show optL none = .none from rfl, show optL (some a) = .tup (a.map .str) from rfl];refine zcF (frWQ6 (D.tup (List.map D.str a))) ?_;refine zsK ?_;refine zsI ?_;refine ztC ?_;refine zN (.tup (List.map D.str a)) ?_;refine zO ?_;refine k_is ?_;refine ite_no ?_;refine s_nil ?_;refine zsK ?_;refine zsI ?_;refine ztC ?_;refine zN .none ?_;refine zO ?_;refine k_is ?_;refine ite_yes ?_;refine zsK ?_;refine zsR ?_;refine zN (.tup (List.map D.str a)) ?_;exact ⟨rfl, .refl _⟩
  | some b =>
   rw [show optL (some b) = .tup (b.map .str) from rfl, show optL (some a) = .tup (a.map .str) from rfl];have la := ha a rfl;have lb := hb b rfl;refine zcF (frWQ7 (D.tup (List.map D.str a)) (D.tup (List.map D.str b))) ?_;refine zsK ?_;refine zsI ?_;refine ztC ?_;refine zN (.tup (List.map D.str a)) ?_;refine zO ?_;refine k_is ?_;refine ite_no ?_;refine s_nil ?_;refine zsK ?_;refine zsI ?_;refine ztC ?_;refine zN (.tup (List.map D.str b)) ?_;refine zO ?_;refine k_is ?_;refine ite_no ?_;refine s_nil ?_;refine zsK ?_;refine zsR ?_;refine zK (.bi Bi.tuple) ?_;refine zlC ?_;refine zY (frWQ11 (D.tup (List.map D.str a)) (D.tup (List.map D.str b))) ?_;refine zN (.tup (List.map D.str a)) ?_;refine in23 _ none rfl (by refine lm ?_; exact ln1 90374164801 56982401 [_] [] la) ?_;refine zcp (ivWQ2 H a b) ?_ ?_ ?_
   ·intro d rr acc _ J zi1;refine el13 zi1 fun v1 zr2 zr3 zq4 => ?_;clear zi1;subst zr2;subst zr3;refine el23 zq4 fun pre rs hp hrr zr5 => ?_;clear zq4;subst zr5;refine el23 (map_cons_inv hrr) fun x rs zr1 zr2 zr3 => ?_;subst zr1;subst zr2;subst zr3;refine zc1 ?_;refine zbT (frWQ13 (D.str x) (D.tup (List.map D.str a)) (D.tup (List.map D.str b))) ?_;refine ztC ?_;refine zN (.str x) ?_;refine zN (.tup (List.map D.str b)) ?_;refine k_ins b ?_
    cases hx : b.any (· == x) with
    | true =>
     refine ite_yes ?_;refine zN (.str x) ?_;refine ⟨rfl, _, rfl, rfl, pre ++ [x], rs, by simpa using hp, rfl, ?_⟩;rw [filter_snoc, if_pos hx, List.map_append]
     rfl
    | false =>
     refine ite_no ?_;refine ⟨rfl, _, rfl, rfl, pre ++ [x], rs, by simpa using hp, rfl, ?_⟩;rw [filter_snoc, if_neg (by simp [hx])]
   ·intro ys l J zi1;refine el13 zi1 fun v1 zr2 zr3 zq4 => ?_;clear zi1;subst zr2;subst zr3;refine el23 zq4 fun pre rs hp hrr hy => ?_;clear zq4;rw [map_nil_inv hrr, List.append_nil] at hp;subst hp
    have hy : ys = (pre.filter fun w => b.any (· == w)).map D.str := by simpa using hy
    subst hy;have hl := List.length_filter_le (fun w => b.any (· == w)) pre;refine ⟨by refine lm ?_; exact ln2 90374164801 56982441 1409601 [_,_] [] la hl, ?_⟩;intro q H1 k1 h1 l1;refine l_nil ?_;refine c_bi ?_;refine w_tuple h1 (by refine lm ?_; exact ln2 90374164801 56982441 1409601 [_,_] [] la hl) ?_;exact ⟨rfl, k1⟩
   ·exact in13 _ rfl rfl ⟨[], a, rfl, rfl, rfl⟩
end Mine
end

-- WR
section
namespace Mine
theorem inh_val : valAt 3 = .tup ((["Zinh", "Qaai"] : List Str).map .str) := by kernel_rfl
noncomputable def names (r : Row) : List Str := match r.2.2 with
 | some l => l
 | none => [own r]
noncomputable def common (w : Str) : Bool := w == "Zyyy" || (["Zinh", "Qaai"] : List Str).any (· == w)
theorem rows_names : ∀ r ∈ rowsL, (∀ w ∈ names r, common w = true → lot r = none) ∧ (names r).Nodup ∧ ((∀ w ∈ names r, common w = false) → lot r = some (srt (names r))) ∧ (names r).length ≤ 10 := by decide +kernel
theorem is_in_strs' {H : AH} {i : Nat} {l : List Str} (x : Str) (h : H[i]? = some (.list (l.map .str))) : isIn H (.str x) (.ref i) = some (l.any (· == x)) := by
 unfold isIn;dsimp only;rw [h];dsimp only;rw [py_strs]
 show some (List.any (l.map PyData.str) _) = _
 rw [List.any_map];refine congrArg some (congrArg (fun f => l.any f) ?_)
 funext y
 simp [eqv_str]
theorem k_ninl {H : AH} {i : Nat} {x : Str} {l : List Str} {R : Bool → Prop} (h : H[i]? = some (.list (l.map .str))) (q : R (!l.any (· == x))) : ∃ t', cmp H .NotIn (.str x) (.ref i) = some t' ∧ R t' := ⟨_, by show (isIn _ _ _).map _ = _; rw [is_in_strs' x h]; rfl, q⟩
theorem omap_str : ∀ l : List Str, omap strOf (l.map .str) = some l
 | [] => rfl
 | a :: l => by rw [List.map_cons]; unfold omap; rw [show strOf (.str a) = some a from rfl]; dsimp only; rw [omap_str l]
theorem w_sorted {H : AH} {i : Nat} {l : List Str} {Q : D → AH → Prop} (h : H[i]? = some (.list (l.map .str))) (hl : l.length < 64) (q : New H (.list ((srt l).map .str)) Q) : Rx (bcall H .sorted [.ref i]) Q :=
 ⟨_, _, by unfold bcall; dsimp only; rw [listAt_of h]; dsimp only; rw [omap_str]; dsimp only; rw [if_pos hl]; rfl, New.at q⟩
theorem insS_len (a : Str) (l : List Str) : (insS a l).length = l.length + 1 := by
 induction l with
 | nil => rfl
 | cons b l ih => unfold insS; split <;> simp [ih]
theorem srt_len (l : List Str) : (srt l).length = l.length := by
 induction l with
 | nil => rfl
 | cons a l ih => unfold srt; rw [insS_len, ih]; rfl
noncomputable def frWR0 (x0 x1 : D) : Loc := [("code", some x0), ("data", some x1), ("known", none), ("names", none), ("found", none), ("name", none)]
noncomputable def frWR1 (x0 x1 x2 : D) : Loc := [("code", some x0), ("data", some x1), ("known", some x2), ("names", none), ("found", none), ("name", none)]
noncomputable def frWR2 (x0 x1 x2 : D) : Loc := [("code", some x0), ("data", some x1), ("known", some .none), ("names", some x2), ("found", none), ("name", none)]
noncomputable def frWR3 (x0 x1 x2 x3 : D) : Loc := [("code", some x0), ("data", some x1), ("known", some .none), ("names", some x2), ("found", some x3), ("name", none)]
noncomputable def frWR4 (x0 x1 x2 x3 : D) (x4 : Option D) : Loc := [("code", some x0), ("data", some x1), ("known", some .none), ("names", some x2), ("found", some x3), ("name", x4)]
noncomputable abbrev ivWR0 (kd : Nat) (r : Row) (H : AH) (a : Nat) : List D → Loc → AH → Prop := fun zr0 zl zh => ∃ zv0, zl = (frWR4 (D.int r.fst) (D.ref kd) (D.tup (List.map D.str (Mine.names r))) (D.ref a) zv0 : Loc) ∧ (fun _ rr J => Keep H J ∧ ∃ pre rs, pre ++ rs = names r ∧ rr = rs.map D.str ∧ J[a]? = some (.list (pre.map .str)) ∧ ∀ w ∈ pre, common w = false) zv0 zr0 zh
noncomputable def frWR5 (x0 x1 x2 x3 x4 : D) : Loc := [("code", some x0), ("data", some x1), ("known", some .none), ("names", some x2), ("found", some x3), ("name", some x4)]
noncomputable def frWR6 (x0 x1 x2 x3 : D) : Loc := [("code", some x0), ("data", some x1), ("known", some x2), ("names", some x3), ("found", none), ("name", none)]
noncomputable def frWR7 (x0 x1 x2 x3 x4 : D) : Loc := [("code", some x0), ("data", some x1), ("known", some x2), ("names", some x3), ("found", some x4), ("name", none)]
noncomputable def frWR8 (x0 x1 x2 x3 x4 : D) (x5 : Option D) : Loc := [("code", some x0), ("data", some x1), ("known", some x2), ("names", some x3), ("found", some x4), ("name", x5)]
noncomputable abbrev ivWR1 (kd : Nat) (r : Row) (H : AH) (a : Nat) : List D → Loc → AH → Prop := fun zr0 zl zh => ∃ zv0, zl = (frWR8 (D.int r.fst) (D.ref kd) (D.tup (List.map D.str (Mine.names r))) (D.tup (List.map D.str (Mine.names r))) (D.ref a) zv0 : Loc) ∧ (fun _ rr J => Keep H J ∧ ∃ pre rs, pre ++ rs = names r ∧ rr = rs.map D.str ∧ J[a]? = some (.list (pre.map .str)) ∧ ∀ w ∈ pre, common w = false) zv0 zr0 zh
noncomputable def frWR9 (x0 x1 x2 x3 x4 x5 : D) : Loc := [("code", some x0), ("data", some x1), ("known", some x2), ("names", some x3), ("found", some x4), ("name", some x5)]
theorem script_set {m kd : Nat} {ts : List Row} {r : Row} {H : AH} (hm : 80 ≤ m) (K : Kept H kd ts) (hr : r ∈ rowsL) (ht : r ∈ ts) : Rx ((ev ge m).cl (.fn 29) [.int r.1, .ref kd] H) fun d H' => d = optL (lot r) ∧ Keep H H' := by
 obtain ⟨n, rfl⟩ : ∃ n, m = n + 80 := ⟨m - 80, by exact Nat.le_antisymm (ln1 146800845633601 163905541140841 [_,_] [] (Nat.sub_add_cancel (ln1 90112128521 90112128521 [_] [] hm))) (ln1 144408581140801 157515781140801 [_,_] [] (Nat.sub_add_cancel (ln1 90112128521 90112128521 [_] [] hm)))⟩;refine el04 (rows_names r hr) fun f1 f2 f3 f4 => ?_;refine el12 (K.meth) fun jd i1 m1 => ?_;refine zcF (frWR0 (D.int r.fst) (D.ref kd)) ?_;refine zsK ?_;refine zsN ?_;refine zM ?_;refine zN (.ref kd) ?_;refine in12 _ rfl (.inr ⟨_, _, 229, i1, m1, ?_⟩);refine zlC ?_;refine zS ?_;refine zlC ?_;refine zN (.int r.fst) ?_;refine l_nil ?_;refine Rx.same (kept_scx (by exact fu (by decide)) K hr ht) ?_;refine zsL (frWR1 (D.int r.fst) (D.ref kd) (optL r.snd.snd)) ?_;refine zsK ?_;refine zsN ?_;refine zF ?_;refine ztC ?_;refine zN (optL r.snd.snd) ?_;refine zO ?_;refine k_is ?_
 rcases hl : r.2.2 with _ | l
 ·have en : names r = [own r] := by unfold names; rw [hl]
  rw [show optL none = .none from rfl];refine ite_yes ?_;refine zT ?_;refine zlC ?_;refine zM ?_;refine zN (.ref kd) ?_;refine in12 _ rfl (.inr ⟨_, _, 229, i1, m1, ?_⟩);refine zlC ?_;refine zS ?_;refine zlC ?_;refine zN (.int r.fst) ?_;refine l_nil ?_;refine Rx.same (kept_sc (by exact fu (by decide)) K hr ht) ?_;refine l_nil ?_;refine zsL (frWR2 (D.int r.fst) (D.ref kd) (D.tup [.str (own r)])) ?_;refine zsK ?_;refine zsN ?_;refine zL ?_;refine l_nil ?_;rw [show [D.str (own r)] = (names r).map .str by rw [en]; rfl];refine ⟨by simp [maxLen], ?_⟩;intro a H1 k1 h1 l1;refine zsL (frWR3 (D.int r.fst) (D.ref kd) (D.tup (List.map D.str (Mine.names r))) (D.ref a)) ?_;refine zsK ?_;refine zsF ?_;refine zN (.tup (List.map D.str (Mine.names r))) ?_;refine in23 _ none rfl (by refine lm ?_; exact ln1 90374164801 56982401 [_] [] f4) ?_;refine zlp (ivWR0 kd r H a) ?_ ?_ ?_
  ·intro d rr _ J zi1;refine el13 zi1 fun v1 zr2 k zq3 => ?_;clear zi1;subst zr2;refine el24 zq3 fun pre rs hp hrr ha hc => ?_;clear zq3;refine el23 (map_cons_inv hrr) fun x rs zr1 zr2 zr3 => ?_;subst zr1;subst zr2;subst zr3
   have hx : x ∈ names r := by rw [← hp]; exact List.mem_append_right _ List.mem_cons_self
   have hlen : pre.length ≤ 10 := by have := congrArg List.length hp; simp at this; exact ln2 56982401 56982441 157517417859201 [_,_,_] [] f4 this
   refine l_step ?_;refine zbT (frWR5 (D.int r.fst) (D.ref kd) (D.tup (List.map D.str (Mine.names r))) (D.ref a) (D.str x)) ?_;refine zsK ?_;refine zsI ?_;refine t_bool ?_;refine ztO ?_;refine ztC ?_;refine zN (.str x) ?_;refine zN (.str (Str.ofString "Zyyy")) ?_;refine k_eq (eq_strs _ _ _) ?_
   cases hcx : common x with
   | true =>
    have fin := f1 x hx hcx;unfold common at hcx
    cases h1 : (x == "Zyyy") with
    | true =>
     refine ite_yes ?_;refine ite_yes ?_;refine zsK ?_;refine zsR ?_;refine zO ?_;rw [fin];exact ⟨rfl, k⟩
    | false =>
     rw [h1, Bool.false_or] at hcx;refine ite_no ?_;refine ztO ?_;refine ztC ?_;refine zN (.str x) ?_;refine zN (valAt 3) ?_;rw [inh_val];refine k_ins _ ?_;rw [hcx];refine ite_yes ?_;refine ite_yes ?_;refine zsK ?_;refine zsR ?_;refine zO ?_;rw [fin];exact ⟨rfl, k⟩
   | false =>
    have hcx' := hcx;unfold common at hcx;rw [Bool.or_eq_false_iff] at hcx;rw [hcx.1];refine ite_no ?_;refine ztO ?_;refine ztC ?_;refine zN (.str x) ?_;refine zN (valAt 3) ?_;rw [inh_val];refine k_ins _ ?_;rw [hcx.2];refine ite_no ?_;refine a_nil_or ?_;refine ite_no ?_;refine s_nil ?_;refine zsK ?_;refine zsI ?_;refine ztC ?_;refine zN (.str x) ?_;refine zN (.ref a) ?_;refine k_ninl ha ?_
    have hnot : pre.any (· == x) = false := by
     rw [Bool.eq_false_iff];intro h;refine el12 (List.any_eq_true.mp h) fun y hy e => ?_;rw [beq_iff_eq] at e;subst e;rw [← hp] at f2;exact (List.nodup_append.mp f2).2.2 y hy y List.mem_cons_self rfl
    rw [hnot];refine ite_yes ?_;refine zsK ?_;refine zsX ?_;refine zM ?_;refine zN (.ref a) ?_;refine zmO ha ?_;refine zlC ?_;refine zN (.str x) ?_;refine l_nil ?_;refine m_append ha (by refine lm ?_; exact ln1 90374164801 56982401 [_] [] hlen) ?_;refine s_nil ?_;refine s_nil ?_;refine ⟨rfl, _, rfl, k.set l1, pre ++ [x], rs, by simpa using hp, rfl, ?_, ?_⟩
    ·rw [at_set ha, List.map_append]; rfl
    ·intro w hw;rcases List.mem_append.mp hw with hw | hw
     ·exact hc w hw
     ·rw [List.mem_singleton.mp hw]; exact hcx'
  ·intro _ J zi1;refine el13 zi1 fun v1 zr2 k zq3 => ?_;clear zi1;subst zr2;refine el24 zq3 fun pre rs hp hrr ha hc => ?_;clear zq3;rw [map_nil_inv hrr, List.append_nil] at hp;subst hp;refine zsK ?_;refine zsR ?_;refine zK (.bi Bi.tuple) ?_;refine zlC ?_;refine zK (.bi Bi.sorted) ?_;refine zlC ?_;refine zN (.ref a) ?_;refine l_nil ?_;refine c_bi ?_;refine w_sorted ha (by exact ln1 94212116801 56982401 [_] [] f4) ?_;intro b J2 k2 h2 l2;refine l_nil ?_;refine c_bi ?_;refine w_tuple h2 (by rw [List.length_map, srt_len]; exact ln1 90374164801 56982401 [_] [] f4) ?_;exact ⟨by rw [f3 hc]; rfl, k.trans k2⟩
  ·exact in13 _ rfl k1 ⟨[], names r, rfl, rfl, h1, by simp⟩
 ·have en : names r = l := by unfold names; rw [hl]
  rw [show optL (some l) = .tup ((names r).map .str) by rw [en]; rfl];refine ite_no ?_;refine zN (.tup (List.map D.str (Mine.names r))) ?_;refine zsL (frWR6 (D.int r.fst) (D.ref kd) (D.tup (List.map D.str (Mine.names r))) (D.tup (List.map D.str (Mine.names r)))) ?_;refine zsK ?_;refine zsN ?_;refine zL ?_;refine l_nil ?_;refine ⟨by simp [maxLen], ?_⟩;intro a H1 k1 h1 l1;refine zsL (frWR7 (D.int r.fst) (D.ref kd) (D.tup (List.map D.str (Mine.names r))) (D.tup (List.map D.str (Mine.names r))) (D.ref a)) ?_;refine zsK ?_;refine zsF ?_;refine zN (.tup (List.map D.str (Mine.names r))) ?_;refine in23 _ none rfl (by refine lm ?_; exact ln1 90374164801 56982401 [_] [] f4) ?_;refine zlp (ivWR1 kd r H a) ?_ ?_ ?_
  ·intro d rr _ J zi1;refine el13 zi1 fun v1 zr2 k zq3 => ?_;clear zi1;subst zr2;refine el24 zq3 fun pre rs hp hrr ha hc => ?_;clear zq3;refine el23 (map_cons_inv hrr) fun x rs zr1 zr2 zr3 => ?_;subst zr1;subst zr2;subst zr3
   have hx : x ∈ names r := by rw [← hp]; exact List.mem_append_right _ List.mem_cons_self
   have hlen : pre.length ≤ 10 := by have := congrArg List.length hp; simp at this; exact ln2 56982401 56982441 157517417859201 [_,_,_] [] f4 this
   refine l_step ?_;refine zbT (frWR9 (D.int r.fst) (D.ref kd) (D.tup (List.map D.str (Mine.names r))) (D.tup (List.map D.str (Mine.names r))) (D.ref a) (D.str x)) ?_;refine zsK ?_;refine zsI ?_;refine t_bool ?_;refine ztO ?_;refine ztC ?_;refine zN (.str x) ?_;refine zN (.str (Str.ofString "Zyyy")) ?_;refine k_eq (eq_strs _ _ _) ?_
   cases hcx : common x with
   | true =>
    have fin := f1 x hx hcx;unfold common at hcx
    cases h1 : (x == "Zyyy") with
    | true =>
     refine ite_yes ?_;refine ite_yes ?_;refine zsK ?_;refine zsR ?_;refine zO ?_;rw [fin];exact ⟨rfl, k⟩
    | false =>
     rw [h1, Bool.false_or] at hcx;refine ite_no ?_;refine ztO ?_;refine ztC ?_;refine zN (.str x) ?_;refine zN (valAt 3) ?_;rw [inh_val];refine k_ins _ ?_;rw [hcx];refine ite_yes ?_;refine ite_yes ?_;refine zsK ?_;refine zsR ?_;refine zO ?_;rw [fin];exact ⟨rfl, k⟩
   | false =>
    have hcx' := hcx;unfold common at hcx;rw [Bool.or_eq_false_iff] at hcx;rw [hcx.1];refine ite_no ?_;refine ztO ?_;refine ztC ?_;refine zN (.str x) ?_;refine zN (valAt 3) ?_;rw [inh_val];refine k_ins _ ?_;rw [hcx.2];refine ite_no ?_;refine a_nil_or ?_;refine ite_no ?_;refine s_nil ?_;refine zsK ?_;refine zsI ?_;refine ztC ?_;refine zN (.str x) ?_;refine zN (.ref a) ?_;refine k_ninl ha ?_
    have hnot : pre.any (· == x) = false := by
     rw [Bool.eq_false_iff];intro h;refine el12 (List.any_eq_true.mp h) fun y hy e => ?_;rw [beq_iff_eq] at e;subst e;rw [← hp] at f2;exact (List.nodup_append.mp f2).2.2 y hy y List.mem_cons_self rfl
    rw [hnot];refine ite_yes ?_;refine zsK ?_;refine zsX ?_;refine zM ?_;refine zN (.ref a) ?_;refine zmO ha ?_;refine zlC ?_;refine zN (.str x) ?_;refine l_nil ?_;refine m_append ha (by refine lm ?_; exact ln1 90374164801 56982401 [_] [] hlen) ?_;refine s_nil ?_;refine s_nil ?_;refine ⟨rfl, _, rfl, k.set l1, pre ++ [x], rs, by simpa using hp, rfl, ?_, ?_⟩
    ·rw [at_set ha, List.map_append]; rfl
    ·intro w hw;rcases List.mem_append.mp hw with hw | hw
     ·exact hc w hw
     ·rw [List.mem_singleton.mp hw]; exact hcx'
  ·intro _ J zi1;refine el13 zi1 fun v1 zr2 k zq3 => ?_;clear zi1;subst zr2;refine el24 zq3 fun pre rs hp hrr ha hc => ?_;clear zq3;rw [map_nil_inv hrr, List.append_nil] at hp;subst hp;refine zsK ?_;refine zsR ?_;refine zK (.bi Bi.tuple) ?_;refine zlC ?_;refine zK (.bi Bi.sorted) ?_;refine zlC ?_;refine zN (.ref a) ?_;refine l_nil ?_;refine c_bi ?_;refine w_sorted ha (by exact ln1 94212116801 56982401 [_] [] f4) ?_;intro b J2 k2 h2 l2;refine l_nil ?_;refine c_bi ?_;refine w_tuple h2 (by rw [List.length_map, srt_len]; exact ln1 90374164801 56982401 [_] [] f4) ?_;exact ⟨by rw [f3 hc]; rfl, k.trans k2⟩
  ·exact in13 _ rfl k1 ⟨[], names r, rfl, rfl, h1, by simp⟩
end Mine
end

-- WS
section
namespace Mine
noncomputable abbrev srD (kd a b c : Nat) : List (Str × D) := [("data", .ref kd), ("is_augmented", .bool false), ("most", .int 32), ("starts", .ref a), ("sets", .ref b), ("brackets", .ref c)]
structure SR (H : AH) (sr js kd a b c : Nat) (xs : List Int) (qs : List Lot) : Prop where
 inst : H[sr]? = some (.inst 86 js)
 dict : H[js]? = some (.dict (srD kd a b c))
 sta : H[a]? = some (.list (xs.map .int))
 set : H[b]? = some (.list (qs.map optL))
 ne : a ≠ b
theorem SR.keep {H H' : AH} {sr js kd a b c : Nat} {xs : List Int} {qs : List Lot} (S : SR H sr js kd a b c xs qs) (k : Keep H H') : SR H' sr js kd a b c xs qs :=
 ⟨k _ _ S.inst, k _ _ S.dict, k _ _ S.sta, k _ _ S.set, S.ne⟩
abbrev po_sr_init (kd r j : Nat) (H : AH) : D → AH → Prop := fun d H' => d = .none ∧ ∃ a b c, SR H' r j kd a b c [] [] ∧ KeepBut (· = j) H H' ∧ H.length ≤ a ∧ H.length ≤ b
noncomputable def frWS0 (x0 x1 : D) : Loc := [("self", some x0), ("data", some x1), ("is_augmented", some (.bool false)), ("most", some (.int 32))]
theorem sr_init {m kd r j : Nat} {H : AH} (hm : 30 ≤ m) (hr : H[r]? = some (.inst 86 j)) (hd : H[j]? = some (.dict [])) :
  Rx ((ev ge m).cl (.fn 69) [.ref r, .ref kd, .bool false, .int 32] H) (po_sr_init kd r j H) := by
 obtain ⟨n, rfl⟩ : ∃ n, m = n + 30 := ⟨m - 30, by exact Nat.le_antisymm (ln1 91828097601 102442902441 [_,_] [] (Nat.sub_add_cancel (ln1 56368561 56368561 [_] [] hm))) (ln1 90257302401 98449302401 [_,_] [] (Nat.sub_add_cancel (ln1 56368561 56368561 [_] [] hm)))⟩
 have hrj : r ≠ j := by rintro rfl; rw [hr] at hd; cases hd
 have jl := lt_of_at hd;refine zcF (frWS0 (D.ref r) (D.ref kd)) ?_;refine zsK ?_;refine zsA ?_;refine zN (.ref kd) ?_;refine zN (.ref r) ?_;refine set_attr [("data", .ref kd)] hr hd rfl (by kernel_rfl) (by simp) (by kernel_rfl) ?_;have hd1 := at_set (o' := .dict [("data", .ref kd)]) hd;have hr1 := at_set_ne (o' := .dict [("data", .ref kd)]) hrj.symm hr;have k1 : KeepBut (· = j) H (H.set j (.dict [("data", .ref kd)])) := KeepBut.set (fun O O O e => e) rfl;have ll : (H.set j (.dict [("data", .ref kd)])).length = H.length := List.length_set ..;generalize H.set j (.dict [("data", .ref kd)]) = H1 at *;refine zsK ?_;refine zsA ?_;refine zN (.bool false) ?_;refine zN (.ref r) ?_;refine set_attr [("data", .ref kd), ("is_augmented", .bool false)] hr1 hd1 rfl (by kernel_rfl) (by simp) (by kernel_rfl) ?_;have hd2 := at_set (o' := .dict [("data", .ref kd), ("is_augmented", .bool false)]) hd1;have hr2 := at_set_ne (o' := .dict [("data", .ref kd), ("is_augmented", .bool false)]) hrj.symm hr1;have k2 : KeepBut (· = j) H (H1.set j (.dict [("data", .ref kd), ("is_augmented", .bool false)])) := KeepBut.set k1 rfl
 have ll2 : (H1.set j (.dict [("data", .ref kd), ("is_augmented", .bool false)])).length = H.length := by rw [List.length_set, ll]
 generalize H1.set j (.dict [("data", .ref kd), ("is_augmented", .bool false)]) = H2 at *;refine zsK ?_;refine zsA ?_;refine zN (.int 32) ?_;refine zN (.ref r) ?_;refine set_attr [("data", .ref kd), ("is_augmented", .bool false), ("most", .int 32)] hr2 hd2 rfl (by kernel_rfl) (by simp) (by kernel_rfl) ?_;have hd3 := at_set (o' := .dict [("data", .ref kd), ("is_augmented", .bool false), ("most", .int 32)]) hd2;have hr3 := at_set_ne (o' := .dict [("data", .ref kd), ("is_augmented", .bool false), ("most", .int 32)]) hrj.symm hr2;have k3 : KeepBut (· = j) H (H2.set j (.dict [("data", .ref kd), ("is_augmented", .bool false), ("most", .int 32)])) := KeepBut.set k2 rfl
 have ll3 : (H2.set j (.dict [("data", .ref kd), ("is_augmented", .bool false), ("most", .int 32)])).length = H.length := by rw [List.length_set, ll2]
 generalize H2.set j (.dict [("data", .ref kd), ("is_augmented", .bool false), ("most", .int 32)]) = H3 at *;refine zsK ?_;refine zsA ?_;refine zL ?_;refine l_nil ?_;refine ⟨by simp [maxLen], ?_⟩;intro a H4 k4 ha4 la;refine zN (.ref r) ?_;refine set_attr [("data", .ref kd), ("is_augmented", .bool false), ("most", .int 32), ("starts", .ref a)] (k4 _ _ hr3) (k4 _ _ hd3) rfl (by kernel_rfl) (by simp) (by kernel_rfl) ?_;have hd5 := at_set (o' := .dict [("data", .ref kd), ("is_augmented", .bool false), ("most", .int 32), ("starts", .ref a)]) (k4 _ _ hd3);have hr5 := at_set_ne (o' := .dict [("data", .ref kd), ("is_augmented", .bool false), ("most", .int 32), ("starts", .ref a)]) hrj.symm (k4 _ _ hr3);have ha5 := at_set_ne (o' := .dict [("data", .ref kd), ("is_augmented", .bool false), ("most", .int 32), ("starts", .ref a)]) (show j ≠ a by exact fun hq => ln4 1200 1601601 1475201 1603321 1409721 [_,_,_,_] [] hq jl ll3 la) ha4;have k5 : KeepBut (· = j) H (H4.set j (.dict [("data", .ref kd), ("is_augmented", .bool false), ("most", .int 32), ("starts", .ref a)])) := KeepBut.set (k3.trans k4.but) rfl;generalize H4.set j (.dict [("data", .ref kd), ("is_augmented", .bool false), ("most", .int 32), ("starts", .ref a)]) = H5 at *;have la5 := lt_of_at ha5;refine zsK ?_;refine zsA ?_;refine zL ?_;refine l_nil ?_;refine ⟨by simp [maxLen], ?_⟩;intro b H6 k6 hb6 lb;refine zN (.ref r) ?_;refine set_attr [("data", .ref kd), ("is_augmented", .bool false), ("most", .int 32), ("starts", .ref a), ("sets", .ref b)] (k6 _ _ hr5) (k6 _ _ hd5) rfl (by kernel_rfl) (by simp) (by kernel_rfl) ?_;have hd7 := at_set (o' := .dict [("data", .ref kd), ("is_augmented", .bool false), ("most", .int 32), ("starts", .ref a), ("sets", .ref b)]) (k6 _ _ hd5);have hr7 := at_set_ne (o' := .dict [("data", .ref kd), ("is_augmented", .bool false), ("most", .int 32), ("starts", .ref a), ("sets", .ref b)]) hrj.symm (k6 _ _ hr5);have ha7 := at_set_ne (o' := .dict [("data", .ref kd), ("is_augmented", .bool false), ("most", .int 32), ("starts", .ref a), ("sets", .ref b)]) (show j ≠ a by exact fun hq => ln4 1200 1601601 1475201 1603321 1409721 [_,_,_,_] [] hq jl ll3 la) (k6 _ _ ha5);have hb7 := at_set_ne (o' := .dict [("data", .ref kd), ("is_augmented", .bool false), ("most", .int 32), ("starts", .ref a), ("sets", .ref b)]) (show j ≠ b by exact fun hq => ln6 1200 1601601 1475201 1603321 1414521 1480161 1409801 [_,_,_,_,_,_] [] hq jl ll3 la la5 lb) hb6;have k7 : KeepBut (· = j) H (H6.set j (.dict [("data", .ref kd), ("is_augmented", .bool false), ("most", .int 32), ("starts", .ref a), ("sets", .ref b)])) := KeepBut.set (k5.trans k6.but) rfl;generalize H6.set j (.dict [("data", .ref kd), ("is_augmented", .bool false), ("most", .int 32), ("starts", .ref a), ("sets", .ref b)]) = H7 at *;refine zsK ?_;refine zsA ?_;refine zL ?_;refine l_nil ?_;refine ⟨by simp [maxLen], ?_⟩;intro c H8 k8 hc8 lc;refine zN (.ref r) ?_;refine set_attr (srD kd a b c) (k8 _ _ hr7) (k8 _ _ hd7) rfl (by kernel_rfl) (by simp) (by kernel_rfl) ?_;have hd9 := at_set (o' := .dict (srD kd a b c)) (k8 _ _ hd7);have hr9 := at_set_ne (o' := .dict (srD kd a b c)) hrj.symm (k8 _ _ hr7);have ha9 := at_set_ne (o' := .dict (srD kd a b c)) (show j ≠ a by exact fun hq => ln4 1200 1601601 1475201 1603321 1409721 [_,_,_,_] [] hq jl ll3 la) (k8 _ _ ha7);have hb9 := at_set_ne (o' := .dict (srD kd a b c)) (show j ≠ b by exact fun hq => ln6 1200 1601601 1475201 1603321 1414521 1480161 1409801 [_,_,_,_,_,_] [] hq jl ll3 la la5 lb) (k8 _ _ hb7);have k9 : KeepBut (· = j) H (H8.set j (.dict (srD kd a b c))) := KeepBut.set (k7.trans k8.but) rfl;refine s_nil ?_;exact ⟨rfl, a, b, c, ⟨hr9, hd9, ha9, hb9, by exact fun hq => ln3 1200 1601601 1475201 1409681 [_,_,_] [] hq la5 lb⟩, k9, by exact ln2 1409601 1600081 1409681 [_,_,_] [] ll3 la, by exact ln4 1409601 1600081 1412881 1478521 1409761 [_,_,_,_,_] [] ll3 la la5 lb⟩
theorem eq_nil_ints {H : AH} {c j : Nat} {cs : List Int} (hc : H[c]? = some (.list (cs.map .int))) (hj : H[j]? = some (.list [])) : isEq H (.ref c) (.ref j) = some (decide (cs = [])) := by
 have h1 : py H 3 (.ref c) = some (.list (cs.map .int)) := by
  unfold py; dsimp only; rw [listAt_of hc]; dsimp only; rw [py_ints]; rfl
 have h2 : py H 3 (.ref j) = some (.list []) := by
  unfold py; dsimp only; rw [listAt_of hj]; rfl
 unfold isEq;dsimp only;rw [h1, h2];dsimp only
 cases cs with
 | nil => simp [PyData.eqv, PyData.eqvAll]
 | cons x cs => simp [PyData.eqv, PyData.eqvAll]
theorem py_lot {H : AH} (q : Lot) : py H 3 (optL q) = some (match q with | none => .none | some l => .tuple (l.map .str)) := by
 cases q with
 | none => rfl
 | some l =>
  show py H 3 (.tup (l.map .str)) = _
  unfold py; dsimp only; rw [py_strs]; rfl
theorem eq_empty (H : AH) (q : Lot) : isEq H (optL q) (.tup []) = some (decide (q = some [])) := by
 have h2 : py H 3 (.tup []) = some (.tuple []) := rfl;have h1 := py_lot (H := H) q;unfold isEq
 cases q with
 | none => 
  show some (PyData.eqv .none (.tuple [])) = _
  simp [PyData.eqv]
 | some l =>
  rw [show optL (some l) = .tup (l.map .str) from rfl] at h1 ⊢;dsimp only;rw [h1, h2];dsimp only
  cases l with
  | nil => simp [PyData.eqv, PyData.eqvAll]
  | cons x cs => simp [PyData.eqv, PyData.eqvAll]
end Mine
end

-- WT
section
namespace Mine
theorem nth_last (ds : List D) (d : D) : nth (ds ++ [d]) (-1) = some d := by
 unfold nth;rw [if_neg (by decide), if_pos (by simp; exact ln0 443086631569206656561 [_] [])];rw [show (-1 + ((ds ++ [d]).length : Int)).toNat = ds.length by simp; exact Nat.le_antisymm (ln1 1409601 476641063573302686401 [_,_] [] (Int.toNat_of_nonneg (ln0 443086631569206656561 [_] []))) (ln1 1409601 493418279569206686441 [_,_] [] (Int.toNat_of_nonneg (ln0 443086631569206656561 [_] [])))];simp
theorem setNth_last (ds : List D) (d v : D) : setNth (ds ++ [d]) (-1) v = some (ds ++ [v]) := by
 unfold setNth;dsimp only;rw [if_neg (show ¬ (0 : Int) ≤ -1 by decide)];rw [show (-1 + ((ds ++ [d]).length : Int)) = (ds.length : Int) by simp; exact Int.le_antisymm (ln0 444181092984730754161 [_] []) (ln0 443086631569206686401 [_] [])];rw [if_pos (by simp; exact ln0 179574218270401 [_] [])];simp
abbrev po_sr_put0 (sr js kd a b c p : Nat) (r : Row) (H : AH) : D → AH → Prop := fun d H' => d = .none ∧ SR H' sr js kd a b c [(p : Int)] [lot r] ∧ KeepBut (fun i => i = a ∨ i = b) H H'
noncomputable def frWT0 (x0 x1 x2 : D) : Loc := [("self", some x0), ("place", some x1), ("code", some x2), ("known", none), ("pair", none), ("both", none)]
noncomputable def frWT1 (x0 x1 x2 x3 : D) : Loc := [("self", some x0), ("place", some x1), ("code", some x2), ("known", some x3), ("pair", none), ("both", none)]
noncomputable def frWT2 (x0 x1 x2 x3 : D) : Loc := [("self", some x0), ("place", some x1), ("code", some x2), ("known", some x3), ("pair", some .none), ("both", none)]
theorem sr_put0 {m sr js kd a b c p : Nat} {ts : List Row} {r : Row} {H : AH} (hm : 110 ≤ m) (S : SR H sr js kd a b c [] []) (K : Kept H kd ts) (hr : r ∈ rowsL) (ht : r ∈ ts) :
  Rx ((ev ge m).cl (.fn 76) [.ref sr, .int p, .int r.1] H) (po_sr_put0 sr js kd a b c p r H) := by
 obtain ⟨n, rfl⟩ : ∃ n, m = n + 110 := ⟨m - 110, by exact Nat.le_antisymm (ln1 146800922433601 163905543060841 [_,_] [] (Nat.sub_add_cancel (ln1 90112176521 90112176521 [_] [] hm))) (ln1 144408583060801 157515783060801 [_,_] [] (Nat.sub_add_cancel (ln1 90112176521 90112176521 [_] [] hm)))⟩;refine zcF (frWT0 (D.ref sr) (D.int (↑p : Int)) (D.int r.fst)) ?_;refine zsK ?_;refine zsN ?_;refine zF ?_;refine ztV ?_;refine zG ?_;refine zN (.ref sr) ?_;refine at_attr (d := .bool false) S.inst S.dict rfl (by kernel_rfl) (by kernel_rfl) ?_;refine k_truth ?_;refine ite_no ?_;refine zK (.fn 29) ?_;refine zlC ?_;refine zN (.int r.fst) ?_;refine zlC ?_;refine zG ?_;refine zN (.ref sr) ?_;refine at_attr (d := .ref kd) S.inst S.dict rfl (by kernel_rfl) (by kernel_rfl) ?_;refine l_nil ?_;refine (script_set (by exact ln0 601318238471016448128521 [_] []) K hr ht).mono ?_;intro _ H1 zi1;refine el02 zi1 fun zr2 k1 => ?_;clear zi1;subst zr2;have S1 := S.keep k1;have K1 := K.keep k1;refine zsL (frWT1 (D.ref sr) (D.int (↑p : Int)) (D.int r.fst) (optL (lot r))) ?_;refine zsK ?_;refine zsN ?_;refine zM ?_;refine zG ?_;refine zN (.ref sr) ?_;refine at_attr (d := .ref kd) S1.inst S1.dict rfl (by kernel_rfl) (by kernel_rfl) ?_;refine el12 (K1.meth) fun jd i1 m1 => ?_;refine in12 _ rfl (.inr ⟨_, _, 229, i1, m1, ?_⟩);refine zlC ?_;refine zS ?_;refine zlC ?_;refine zN (.int r.fst) ?_;refine l_nil ?_;refine Rx.same (kept_bpb (by exact fu (by decide)) K1) ?_;refine zsL (frWT2 (D.ref sr) (D.int (↑p : Int)) (D.int r.fst) (optL (lot r))) ?_;refine zsK ?_;refine zsI ?_;refine t_bool ?_;refine ztA ?_;refine ztC ?_;refine zN .none ?_;refine zO ?_;refine k_isn ?_;refine ite_no ?_;refine ite_no ?_;refine s_nil ?_;refine zsK ?_;refine zsI ?_;refine ztC ?_;refine zG ?_;refine zN (.ref sr) ?_;refine at_attr (d := .ref a) S1.inst S1.dict rfl (by kernel_rfl) (by kernel_rfl) ?_;refine zL ?_;refine l_nil ?_;refine ⟨by simp [maxLen], ?_⟩;intro e H2 k2 he le;have S2 := S1.keep k2;refine k_eq (eq_nil_ints S2.sta he) ?_;refine ite_yes ?_;refine zsK ?_;refine zsX ?_;refine zM ?_;refine zG ?_;refine zN (.ref sr) ?_;refine at_attr (d := .ref a) S2.inst S2.dict rfl (by kernel_rfl) (by kernel_rfl) ?_;refine zmO S2.sta ?_;refine zlC ?_;refine zN (.int (↑p : Int)) ?_;refine l_nil ?_;refine m_append S2.sta (by simp [maxLen]) ?_
 have hja : a ≠ js := by rintro rfl; have := S2.sta; rw [S2.dict] at this; cases this
 have hsa : a ≠ sr := by rintro rfl; have := S2.sta; rw [S2.inst] at this; cases this
 have hjb : b ≠ js := by rintro rfl; have := S2.set; rw [S2.dict] at this; cases this
 have hsb : b ≠ sr := by rintro rfl; have := S2.set; rw [S2.inst] at this; cases this
 have S3 : SR (H2.set a (.list (([] : List Int).map .int ++ [.int p]))) sr js kd a b c [(p : Int)] [] := ⟨at_set_ne hsa S2.inst, at_set_ne hja S2.dict, at_set S2.sta, at_set_ne S2.ne S2.set, S2.ne⟩;have k3 : KeepBut (fun i => i = a ∨ i = b) H (H2.set a (.list (([] : List Int).map .int ++ [.int p]))) := KeepBut.set (Keep.but (k1.trans k2)) (.inl rfl);generalize H2.set a (.list (([] : List Int).map .int ++ [.int p])) = H3 at *;refine zsK ?_;refine zsX ?_;refine zM ?_;refine zG ?_;refine zN (.ref sr) ?_;refine at_attr (d := .ref b) S3.inst S3.dict rfl (by kernel_rfl) (by kernel_rfl) ?_;refine zmO S3.set ?_;refine zlC ?_;refine zN (optL (lot r)) ?_;refine l_nil ?_;refine m_append S3.set (by simp [maxLen]) ?_;have S4 : SR (H3.set b (.list (([] : List Lot).map optL ++ [optL (lot r)]))) sr js kd a b c [(p : Int)] [lot r] := ⟨at_set_ne hsb S3.inst, at_set_ne hjb S3.dict, at_set_ne S3.ne.symm S3.sta, at_set S3.set, S3.ne⟩;have k4 : KeepBut (fun i => i = a ∨ i = b) H (H3.set b (.list (([] : List Lot).map optL ++ [optL (lot r)]))) := KeepBut.set k3 (.inr rfl);refine s_nil ?_;refine zsK ?_;refine zsI ?_;refine t_bool ?_;refine ztA ?_;refine ztC ?_;refine zN .none ?_;refine zO ?_;refine k_isn ?_;refine ite_no ?_;refine ite_no ?_;refine s_nil ?_;refine s_nil ?_;exact in03 rfl S4 k4
abbrev po_sr_put1 (sr js kd a b c p : Nat) (r : Row) (x : Int) (xs : List Int) (q : Lot) (qs : List Lot) (H : AH) : D → AH → Prop := fun d H' => d = .none ∧ (if comb q (lot r) = some [] then SR H' sr js kd a b c ((x :: xs) ++ [(p : Int)]) (qs ++ [q] ++ [lot r]) else SR H' sr js kd a b c (x :: xs) (qs ++ [comb q (lot r)])) ∧ KeepBut (fun i => i = a ∨ i = b) H H'
noncomputable def frWT3 (x0 x1 x2 x3 x4 : D) : Loc := [("self", some x0), ("place", some x1), ("code", some x2), ("known", some x3), ("pair", some .none), ("both", some x4)]
theorem sr_put1 {m sr js kd a b c p : Nat} {ts : List Row} {r : Row} {x : Int} {xs : List Int} {q : Lot} {qs : List Lot} {H : AH} (hm : 110 ≤ m) (S : SR H sr js kd a b c (x :: xs) (qs ++ [q])) (K : Kept H kd ts) (hr : r ∈ rowsL) (ht : r ∈ ts) (hx : xs.length ≤ 50) (hq : qs.length ≤ 50) (sq : Short q) (sl : Short (lot r)) :
  Rx ((ev ge m).cl (.fn 76) [.ref sr, .int p, .int r.1] H) (po_sr_put1 sr js kd a b c p r x xs q qs H) := by
 obtain ⟨n, rfl⟩ : ∃ n, m = n + 110 := ⟨m - 110, by exact Nat.le_antisymm (ln1 146800922433601 163905543060841 [_,_] [] (Nat.sub_add_cancel (ln1 90112176521 90112176521 [_] [] hm))) (ln1 144408583060801 157515783060801 [_,_] [] (Nat.sub_add_cancel (ln1 90112176521 90112176521 [_] [] hm)))⟩;refine zcF (frWT0 (D.ref sr) (D.int (↑p : Int)) (D.int r.fst)) ?_;refine zsK ?_;refine zsN ?_;refine zF ?_;refine ztV ?_;refine zG ?_;refine zN (.ref sr) ?_;refine at_attr (d := .bool false) S.inst S.dict rfl (by kernel_rfl) (by kernel_rfl) ?_;refine k_truth ?_;refine ite_no ?_;refine zK (.fn 29) ?_;refine zlC ?_;refine zN (.int r.fst) ?_;refine zlC ?_;refine zG ?_;refine zN (.ref sr) ?_;refine at_attr (d := .ref kd) S.inst S.dict rfl (by kernel_rfl) (by kernel_rfl) ?_;refine l_nil ?_;refine (script_set (by exact ln0 601318238471016448128521 [_] []) K hr ht).mono ?_;intro _ H1 zi1;refine el02 zi1 fun zr2 k1 => ?_;clear zi1;subst zr2;have S1 := S.keep k1;have K1 := K.keep k1;refine zsL (frWT1 (D.ref sr) (D.int (↑p : Int)) (D.int r.fst) (optL (lot r))) ?_;refine zsK ?_;refine zsN ?_;refine zM ?_;refine zG ?_;refine zN (.ref sr) ?_;refine at_attr (d := .ref kd) S1.inst S1.dict rfl (by kernel_rfl) (by kernel_rfl) ?_;refine el12 (K1.meth) fun jd i1 m1 => ?_;refine in12 _ rfl (.inr ⟨_, _, 229, i1, m1, ?_⟩);refine zlC ?_;refine zS ?_;refine zlC ?_;refine zN (.int r.fst) ?_;refine l_nil ?_;refine Rx.same (kept_bpb (by exact fu (by decide)) K1) ?_;refine zsL (frWT2 (D.ref sr) (D.int (↑p : Int)) (D.int r.fst) (optL (lot r))) ?_;refine zsK ?_;refine zsI ?_;refine t_bool ?_;refine ztA ?_;refine ztC ?_;refine zN .none ?_;refine zO ?_;refine k_isn ?_;refine ite_no ?_;refine ite_no ?_;refine s_nil ?_;refine zsK ?_;refine zsI ?_;refine ztC ?_;refine zG ?_;refine zN (.ref sr) ?_;refine at_attr (d := .ref a) S1.inst S1.dict rfl (by kernel_rfl) (by kernel_rfl) ?_;refine zL ?_;refine l_nil ?_;refine ⟨by simp [maxLen], ?_⟩;intro e H2 k2 he le;have S2 := S1.keep k2;refine k_eq (eq_nil_ints S2.sta he) ?_;refine ite_no ?_;refine zsK ?_;refine zsN ?_;refine zK (.fn 48) ?_;refine zlC ?_;refine zX ?_;refine zG ?_;refine zN (.ref sr) ?_;refine at_attr (d := .ref b) S2.inst S2.dict rfl (by kernel_rfl) (by kernel_rfl) ?_;refine zU ?_;refine zI ?_;refine ⟨_, rfl, ?_⟩;have hb2 := S2.set;rw [List.map_append] at hb2;refine g_list hb2 (by simp [maxLen]; exact ln1 90374100801 90115220801 [_] [] hq) (nth_last _ _) ?_;refine zlC ?_;refine zN (optL (lot r)) ?_;refine l_nil ?_;refine (scripts_met (by exact ln0 375823899044385328561 [_] []) sq sl).mono ?_;intro _ H3 zi1;refine el02 zi1 fun zr2 k3 => ?_;clear zi1;subst zr2;have S3 := S2.keep k3
 have hja : a ≠ js := by rintro rfl; have := S2.sta; rw [S2.dict] at this; cases this
 have hsa : a ≠ sr := by rintro rfl; have := S2.sta; rw [S2.inst] at this; cases this
 have hjb : b ≠ js := by rintro rfl; have := S2.set; rw [S2.dict] at this; cases this
 have hsb : b ≠ sr := by rintro rfl; have := S2.set; rw [S2.inst] at this; cases this
 have k03 := (k1.trans k2).trans k3;refine zsL (frWT3 (D.ref sr) (D.int (↑p : Int)) (D.int r.fst) (optL (lot r)) (optL (comb q (lot r)))) ?_;refine zsK ?_;refine zsI ?_;refine ztC ?_;refine zN (optL (comb q (lot r))) ?_;refine zT ?_;refine l_nil ?_;refine k_eq (eq_empty _ _) ?_
 by_cases hc : comb q (lot r) = some []
 ·refine ite_t (by simpa using hc) ?_;refine zsK ?_;refine zsX ?_;refine zM ?_;refine zG ?_;refine zN (.ref sr) ?_;refine at_attr (d := .ref a) S3.inst S3.dict rfl (by kernel_rfl) (by kernel_rfl) ?_;refine zmO S3.sta ?_;refine zlC ?_;refine zN (.int (↑p : Int)) ?_;refine l_nil ?_;refine m_append S3.sta (by simp [maxLen]; exact ln1 90374100801 90115220801 [_] [] hx) ?_;have S4 : SR (H3.set a (.list ((x :: xs).map .int ++ [.int p]))) sr js kd a b c ((x :: xs) ++ [(p : Int)]) (qs ++ [q]) := ⟨at_set_ne hsa S3.inst, at_set_ne hja S3.dict, by rw [at_set S3.sta, List.map_append]; rfl, at_set_ne S3.ne S3.set, S3.ne⟩;have k4 : KeepBut (fun i => i = a ∨ i = b) H (H3.set a (.list ((x :: xs).map .int ++ [.int p]))) := KeepBut.set k03.but (.inl rfl);generalize H3.set a (.list ((x :: xs).map .int ++ [.int p])) = H4 at *;refine zsK ?_;refine zsX ?_;refine zM ?_;refine zG ?_;refine zN (.ref sr) ?_;refine at_attr (d := .ref b) S4.inst S4.dict rfl (by kernel_rfl) (by kernel_rfl) ?_;refine zmO S4.set ?_;refine zlC ?_;refine zN (optL (lot r)) ?_;refine l_nil ?_;refine m_append S4.set (by simp [maxLen]; exact ln1 90374100801 90115220801 [_] [] hq) ?_;have S5 : SR (H4.set b (.list ((qs ++ [q]).map optL ++ [optL (lot r)]))) sr js kd a b c ((x :: xs) ++ [(p : Int)]) (qs ++ [q] ++ [lot r]) := ⟨at_set_ne hsb S4.inst, at_set_ne hjb S4.dict, at_set_ne S4.ne.symm S4.sta, by rw [at_set S4.set, List.map_append (l₂ := [lot r])]; rfl, S4.ne⟩;have k5 : KeepBut (fun i => i = a ∨ i = b) H (H4.set b (.list ((qs ++ [q]).map optL ++ [optL (lot r)]))) := KeepBut.set k4 (.inr rfl);refine s_nil ?_;refine s_nil ?_;refine zsK ?_;refine zsI ?_;refine t_bool ?_;refine ztA ?_;refine ztC ?_;refine zN .none ?_;refine zO ?_;refine k_isn ?_;refine ite_no ?_;refine ite_no ?_;refine s_nil ?_;refine s_nil ?_;exact in03 rfl (by rw [if_pos hc]; exact S5) k5
 ·refine ite_f (by simpa using hc) ?_;refine zsK ?_;refine zsS ?_;refine zN (optL (comb q (lot r))) ?_;refine zG ?_;refine zN (.ref sr) ?_;refine at_attr (d := .ref b) S3.inst S3.dict rfl (by kernel_rfl) (by kernel_rfl) ?_;refine zU ?_;refine zI ?_;refine ⟨_, rfl, ?_⟩;have hb3 := S3.set;rw [List.map_append] at hb3;refine u_list hb3 (by simp [maxLen]; exact ln1 90374100801 90115220801 [_] [] hq) (setNth_last _ _ _) ?_;have S4 : SR (H3.set b (.list (qs.map optL ++ [optL (comb q (lot r))]))) sr js kd a b c (x :: xs) (qs ++ [comb q (lot r)]) := ⟨at_set_ne hsb S3.inst, at_set_ne hjb S3.dict, at_set_ne S3.ne.symm S3.sta, by rw [at_set S3.set, List.map_append]; rfl, S3.ne⟩;have k4 : KeepBut (fun i => i = a ∨ i = b) H (H3.set b (.list (qs.map optL ++ [optL (comb q (lot r))]))) := KeepBut.set k03.but (.inr rfl);refine s_nil ?_;refine s_nil ?_;refine zsK ?_;refine zsI ?_;refine t_bool ?_;refine ztA ?_;refine ztC ?_;refine zN .none ?_;refine zO ?_;refine k_isn ?_;refine ite_no ?_;refine ite_no ?_;refine s_nil ?_;refine s_nil ?_;exact in03 rfl (by rw [if_neg hc]; exact S4) k4
end Mine
end

-- WU
section
namespace Mine
noncomputable abbrev Seg := Nat × Nat × Lot
structure St where
 c : List Seg
 s : Nat
 q : Lot
 p : Nat
noncomputable def step (st : St) (r : Row) : St := if comb st.q (lot r) = some [] then ⟨st.c ++ [(st.s, st.p, st.q)], st.p, lot r, st.p + 1⟩ else ⟨st.c, st.s, comb st.q (lot r), st.p + 1⟩
noncomputable def run (ts : List Row) : St := ts.foldl step ⟨[], 0, none, 0⟩
theorem run_snoc (ts : List Row) (r : Row) : run (ts ++ [r]) = step (run ts) r := by unfold run; rw [List.foldl_append]; rfl
noncomputable def segs (ts : List Row) : List Seg := if ts = [] then [] else (run ts).c ++ [((run ts).s, ts.length, (run ts).q)]
noncomputable def wordsL : List Str := ["Cyrl", "Latn", "Grek", "Zyyy", "Zinh", "Hira", "Kana", "Deva", "Gujr", "Zzzz"]
structure Good (q : Lot) : Prop where
 s : Short q
 n : q ≠ some []
 w : ∀ l, q = some l → ∀ x ∈ l, x ∈ wordsL
theorem comb_w {a b : Lot} (ha : ∀ l, a = some l → ∀ x ∈ l, x ∈ wordsL) (hb : ∀ l, b = some l → ∀ x ∈ l, x ∈ wordsL) : ∀ l, comb a b = some l → ∀ x ∈ l, x ∈ wordsL := by
 intro l h
 cases a with
 | none => exact hb l h
 | some a =>
  cases b with
  | none => exact ha l h
  | some b =>
   cases h;intro x hx;exact ha a rfl x (List.mem_filter.mp hx).1
theorem rows_lot : ∀ r ∈ rowsL, lot r ≠ some [] ∧ (match lot r with | none => 0 | some l => l.length) ≤ 10 ∧ ∀ x ∈ (match lot r with | none => [] | some l => l), x ∈ wordsL := by decide +kernel
theorem lot_good {r : Row} (hr : r ∈ rowsL) : Good (lot r) := by
 have h := rows_lot r hr;refine ⟨fun l e => ?_, h.1, fun l e => ?_⟩
 ·have := h.2.1;rw [e] at this;exact this
 ·have := h.2.2;rw [e] at this;exact this
structure Inv (st : St) (k : Nat) : Prop where
 p : st.p = k
 lt : (k = 0 ∧ st = ⟨[], 0, none, 0⟩) ∨ st.s < k
 g : Good st.q
 c : ∀ x ∈ st.c, x.1 < x.2.1 ∧ x.2.1 ≤ k ∧ Good x.2.2
 link : st.c.map (·.2.1) = (st.c.map (·.1) ++ [st.s]).tail
 len : st.c.length ≤ st.s
set_option tactic.hygienic true in
theorem Inv.step {st : St} {k : Nat} {r : Row} (I : Inv st k) (hr : r ∈ rowsL) : Inv (step st r) (k + 1) := by
 have G := lot_good hr;unfold Mine.step
 split
 ·rename_i hc;rcases I.lt with ⟨rfl, rfl⟩ | hlt
  ·exact absurd hc G.n
  ·have hp := I.p;refine ⟨by simp [hp], .inr (by simp [hp]), G, ?_, ?_, ?_⟩
   ·intro x hx;rcases List.mem_append.mp hx with hx | hx
    ·have := I.c x hx; exact ⟨this.1, by exact ln1 91753857601 1409601 [_,_] [] this.2.1, this.2.2⟩
    ·rw [List.mem_singleton.mp hx]; exact ⟨by dsimp only; exact ln2 1473601 1475201 1603241 [_,_,_] [] hlt hp, by dsimp only; exact ln1 91753857601 1537601 [_,_] [] hp, I.g⟩
   ·dsimp only;rw [List.map_append, I.link, List.map_append]
    cases st.c <;> simp
   ·have := I.len; simp; exact ln3 90255446401 1476881 1604841 1411201 [_,_,_,_] [] hlt hp this
 ·rename_i hc;refine ⟨by simp [I.p], .inr ?_, ⟨comb_len I.g.s G.s, hc, comb_w I.g.w G.w⟩, ?_, I.link, I.len⟩
  ·rcases I.lt with ⟨rfl, rfl⟩ | hlt
   ·exact Nat.zero_lt_one
   ·dsimp only; exact ln1 95849857601 1473601 [_,_] [] hlt
  ·intro x hx;have := I.c x hx; exact ⟨this.1, by exact ln1 91753857601 1409601 [_,_] [] this.2.1, this.2.2⟩
theorem run_inv {ts : List Row} (hts : ∀ r ∈ ts, r ∈ rowsL) : Inv (run ts) ts.length := by
 have : ∀ (rs : List Row) (st : St) (k : Nat), (∀ r ∈ rs, r ∈ rowsL) → Inv st k → Inv (rs.foldl step st) (k + rs.length) := by
  intro rs
  induction rs with
  | nil => intro st k _ I; exact I
  | cons r rs ih =>
   intro st k h I;have := ih (Mine.step st r) (k + 1) (fun x hx => h x (List.mem_cons_of_mem _ hx)) (I.step (h r List.mem_cons_self));rw [List.length_cons, show k + (rs.length + 1) = k + 1 + rs.length by exact Nat.le_antisymm (ln0 15032973092521577857601 [_,_] []) (ln0 15039110584795279446401 [_,_] [])];exact this
 have h := this ts ⟨[], 0, none, 0⟩ 0 hts ⟨rfl, .inl ⟨rfl, rfl⟩, ⟨fun l h => (by cases h), (by simp), fun l h => (by cases h)⟩, by simp, rfl, Nat.le_refl _⟩;rw [Nat.zero_add] at h;exact h
noncomputable def word (ts : List Row) (s e : Nat) (q : Lot) : Str := match q with
 | none => "Zyyy"
 | some l => ((((ts.take e).drop s).map own).filter (fun w => l.any (· == w)) ++ l).headD "Zyyy"
theorem word_mem {ts : List Row} {s e : Nat} {q : Lot} (G : Good q) : word ts s e q ∈ wordsL := by
 unfold word
 cases q with
 | none => exact (by decide +kernel : ("Zyyy" : Str) ∈ wordsL)
 | some l =>
  dsimp only;have hw := G.w l rfl;generalize ((ts.take e).drop s).map own = L
  cases hL : L.filter (fun w => l.any (· == w)) with
  | cons y L' =>
   have := (List.mem_filter.mp (by rw [hL]; exact List.mem_cons_self : y ∈ L.filter (fun w => l.any (· == w)))).2;refine el12 (List.any_eq_true.mp this) fun z hz e => ?_;rw [beq_iff_eq] at e;subst e;exact hw z hz
  | nil =>
   cases l with
   | nil => exact absurd rfl G.n
   | cons z l => exact hw z List.mem_cons_self
theorem cut_nat (ds : List D) (a b : Nat) : cut ds (some (a : Int)) (some (b : Int)) none = some ((ds.take b).drop a) := by
 simp [cut]
theorem textD_cut (ts : List Row) (a b : Nat) : ((textD ts).take b).drop a = textD ((ts.take b).drop a) := by
 simp [textD, List.map_take, List.map_drop]
theorem mem_cut {ts : List Row} {a b : Nat} {x : Row} (h : x ∈ (ts.take b).drop a) : x ∈ ts := List.mem_of_mem_take (List.mem_of_mem_drop h)
abbrev po_script_of_run (s e : Nat) (ts : List Row) (q : Lot) (H : AH) : D → AH → Prop := fun d H' => d = .str (word ts s e q) ∧ Keep H H'
noncomputable def frWU0 (x0 x1 x2 x3 : D) : Loc := [("text", some x0), ("start", some x1), ("end", some x2), ("names", some .none), ("data", some x3), ("code", none)]
noncomputable def frWU1 (x0 x1 x2 x3 x4 : D) : Loc := [("text", some x0), ("start", some x1), ("end", some x2), ("names", some x3), ("data", some x4), ("code", none)]
noncomputable def frWU2 (x0 x1 x2 x3 x4 : D) (x5 : Option D) : Loc := [("text", some x0), ("start", some x1), ("end", some x2), ("names", some x3), ("data", some x4), ("code", x5)]
noncomputable abbrev ivWU0 (kd t s e : Nat) (ts : List Row) (w0 : Str) (l : List Str) (H1 : AH) : List D → Loc → AH → Prop := fun zr0 zl zh => ∃ zv0, zl = (frWU2 (D.ref t) (D.int (↑s : Int)) (D.int (↑e : Int)) (D.tup (List.map D.str (w0 :: l))) (D.ref kd) zv0 : Loc) ∧ (fun _ rr J => J = H1 ∧ ∃ pre rs, pre ++ rs = (ts.take e).drop s ∧ rr = textD rs ∧ ∀ x ∈ pre, (w0 :: l).any (· == own x) = false) zv0 zr0 zh
noncomputable def frWU3 (x0 x1 x2 x3 x4 x5 : D) : Loc := [("text", some x0), ("start", some x1), ("end", some x2), ("names", some x3), ("data", some x4), ("code", some x5)]
theorem script_of_run {m kd t s e : Nat} {ts : List Row} {q : Lot} {H : AH} (hm : 90 ≤ m) (K : Kept H kd ts) (hts : ∀ r ∈ ts, r ∈ rowsL) (ht : H[t]? = some (.list (textD ts))) (hl : ts.length ≤ 50) (G : Good q) :
  Rx ((ev ge m).cl (.fn 97) [.ref t, .int s, .int e, optL q, .ref kd] H) (po_script_of_run s e ts q H) := by
 obtain ⟨n, rfl⟩ : ∃ n, m = n + 90 := ⟨m - 90, by exact Nat.le_antisymm (ln1 146800871233601 163905541780841 [_,_] [] (Nat.sub_add_cancel (ln1 90112144521 90112144521 [_] [] hm))) (ln1 144408581780801 157515781780801 [_,_] [] (Nat.sub_add_cancel (ln1 90112144521 90112144521 [_] [] hm)))⟩
 cases q with
 | none =>
  rw [show optL none = .none from rfl];refine zcF (frWU0 (D.ref t) (D.int (↑s : Int)) (D.int (↑e : Int)) (D.ref kd)) ?_;refine zsK ?_;refine zsI ?_;refine ztC ?_;refine zN .none ?_;refine zO ?_;refine k_is ?_;refine ite_yes ?_;refine zsK ?_;refine zsR ?_;refine zN (.str (Str.ofString "Zyyy")) ?_;exact ⟨rfl, .refl _⟩
 | some l =>
  have l10 := G.s l rfl;rw [show optL (some l) = .tup (l.map .str) from rfl];refine zcF (frWU1 (D.ref t) (D.int (↑s : Int)) (D.int (↑e : Int)) (D.tup (List.map D.str l)) (D.ref kd)) ?_;refine zsK ?_;refine zsI ?_;refine ztC ?_;refine zN (.tup (List.map D.str l)) ?_;refine zO ?_;refine k_is ?_;refine ite_no ?_;refine s_nil ?_;refine zsK ?_;refine zsI ?_;refine ztC ?_;refine zK (.bi Bi.len) ?_;refine zlC ?_;refine zN (.tup (List.map D.str l)) ?_;refine l_nil ?_;refine c_bi ?_;refine w_lent (by refine lm ?_; exact ln1 90374164801 56982401 [_] [] l10) ?_;refine zI ?_;refine k_gt ?_;rw [List.length_map]
  cases l with
  | nil => exact absurd rfl G.n
  | cons w0 l =>
  by_cases h1 : (w0 :: l).length > 1
  ·refine ite_t (by simp at h1 ⊢; exact ln1 179574218242161 58880561 [_] [] h1) ?_;refine zsK ?_;refine zsF ?_;refine zZ ?_;refine zN (.ref t) ?_;refine o_some ?_;refine zN (.int (↑s : Int)) ?_;refine o_some ?_;refine zN (.int (↑e : Int)) ?_;refine o_none ?_;refine sl_list ht rfl rfl rfl (by simp [maxLen]; exact ln1 90374164801 90115220801 [_] [] hl) (cut_nat _ _ _) (by simp [maxLen]; exact ln2 146804998164801 1411201 90115220881 [_,_,_] [] (Nat.min_le_right _ _) hl) ?_;rw [textD_cut];intro a H1 k1 ha la;refine in23 _ _ (src_ref ha) (by simp [maxLen]; exact ln2 146804998164801 1411201 90115220881 [_,_,_] [] (Nat.min_le_right _ _) hl) ?_;refine zlp (ivWU0 kd t s e ts w0 l H1) ?_ ?_ ?_
   ·intro d rr _ J zi1;refine el13 zi1 fun v1 zr2 zr3 zq4 => ?_;clear zi1;subst zr2;subst zr3;refine el23 zq4 fun pre rs hp hrr hno => ?_;clear zq4
    obtain ⟨x, rs, rfl, rfl, rfl⟩ : ∃ x rs', rs = x :: rs' ∧ d = .int x.1 ∧ rr = textD rs' := by
     cases rs with
     | nil => cases hrr
     | cons x rs => exact ⟨x, rs, rfl, by simpa using congrArg List.head? hrr, by simpa using congrArg List.tail hrr⟩
    have hx : x ∈ ts := mem_cut (by rw [← hp]; exact List.mem_append_right _ List.mem_cons_self);have K1 := K.keep k1;refine el12 (K1.meth) fun jd i1 m1 => ?_;refine l_step ?_;refine zbT (frWU3 (D.ref t) (D.int (↑s : Int)) (D.int (↑e : Int)) (D.tup (List.map D.str (w0 :: l))) (D.ref kd) (D.int x.fst)) ?_;refine zsK ?_;refine zsI ?_;refine ztC ?_;refine zM ?_;refine zN (.ref kd) ?_;refine in12 _ rfl (.inr ⟨_, _, 229, i1, m1, ?_⟩);refine zlC ?_;refine zS ?_;refine zlC ?_;refine zN (.int x.fst) ?_;refine l_nil ?_;refine Rx.same (kept_sc (by exact fu (by decide)) K1 (hts x hx) hx) ?_;refine zN (.tup (List.map D.str (w0 :: l))) ?_;refine k_ins (w0 :: l) ?_
    cases hin : (w0 :: l).any (· == own x) with
    | true =>
     refine ite_yes ?_;refine zsK ?_;refine zsR ?_;refine zM ?_;refine zN (.ref kd) ?_;refine in12 _ rfl (.inr ⟨_, _, 229, i1, m1, ?_⟩);refine zlC ?_;refine zS ?_;refine zlC ?_;refine zN (.int x.fst) ?_;refine l_nil ?_;refine Rx.same (kept_sc (by exact fu (by decide)) K1 (hts x hx) hx) ?_;refine ⟨?_, k1⟩;unfold word;dsimp only;rw [← hp, List.map_append, List.filter_append, List.map_cons, List.filter_cons, if_pos hin]
     have : (pre.map own).filter (fun w => (w0 :: l).any (· == w)) = [] := by
      rw [List.filter_eq_nil_iff];intro w hw;refine el12 (List.mem_map.mp hw) fun y hy zr1 => ?_;subst zr1;rw [hno y hy]
      decide
     rw [this]
     rfl
    | false =>
     refine ite_no ?_;refine s_nil ?_;refine s_nil ?_;refine ⟨still_ref ha, _, rfl, rfl, pre ++ [x], rs, by simpa using hp, rfl, ?_⟩;intro y hy;rcases List.mem_append.mp hy with hy | hy
     ·exact hno y hy
     ·rw [List.mem_singleton.mp hy]; exact hin
   ·intro _ J zi1;refine el13 zi1 fun v1 zr2 zr3 zq4 => ?_;clear zi1;subst zr2;subst zr3;refine el23 zq4 fun pre rs hp hrr hno => ?_;clear zq4
    have : rs = [] := by simpa [textD] using hrr.symm
    subst this;rw [List.append_nil] at hp;refine s_nil ?_;refine zsK ?_;refine zsR ?_;refine zF ?_;refine ztC ?_;refine zN (.tup (List.map D.str (w0 :: l))) ?_;refine zT ?_;refine l_nil ?_;refine k_eq (eq_empty _ (some (w0 :: l))) ?_;refine ite_no ?_;refine zX ?_;refine zN (.tup (List.map D.str (w0 :: l))) ?_;refine zI ?_;refine g_tup (by simp [maxLen] at l10 ⊢; exact ln1 90374100801 56918401 [_] [] l10) (nth_nat (k := 0) rfl) ?_;refine ⟨?_, k1⟩;unfold word;dsimp only;rw [← hp]
    have : (pre.map own).filter (fun w => (w0 :: l).any (· == w)) = [] := by
     rw [List.filter_eq_nil_iff];intro w hw;refine el12 (List.mem_map.mp hw) fun y hy zr1 => ?_;subst zr1;rw [hno y hy]
     decide
    rw [this]
    rfl
   ·exact in13 _ rfl rfl ⟨[], _, rfl, rfl, by simp⟩
  ·have h2 : (w0 :: l).length ≤ 1 := by exact ln1 56406401 56406401 [_] [] (Nat.le_of_not_lt h1)
   refine ite_f (by rw [decide_eq_true_eq]; exact fun hq => ln2 1200 2813442161 56406401 [_] [] hq (Nat.le_of_not_lt h1)) ?_
   have : l = [] := by cases l with
    | nil => rfl
    | cons => simp at h1
   subst this;refine s_nil ?_;refine zsK ?_;refine zsR ?_;refine zF ?_;refine ztC ?_;refine zN (.tup (List.map D.str [w0])) ?_;refine zT ?_;refine l_nil ?_;refine k_eq (eq_empty _ (some [w0])) ?_;refine ite_no ?_;refine zX ?_;refine zN (.tup (List.map D.str [w0])) ?_;refine zI ?_;refine g_tup (by simp [maxLen]) (nth_nat (k := 0) rfl) ?_;refine ⟨?_, .refl _⟩;unfold word;dsimp only
   have : ∀ L : List Str, (L.filter (fun w => [w0].any (· == w)) ++ [w0]).headD "Zyyy" = w0 := by
    intro L
    cases hL : L.filter (fun w => [w0].any (· == w)) with
    | nil => rfl
    | cons y L' =>
     have := (List.mem_filter.mp (by rw [hL]; exact List.mem_cons_self : y ∈ L.filter (fun w => [w0].any (· == w)))).2;simp at this;rw [this]; rfl
   rw [this]
   rfl
end Mine
end

-- WV
section
namespace Mine
noncomputable def tileOf (ts : List Row) (g : Seg) : D := .tup [.int g.1, .int g.2.1, .str (word ts g.1 g.2.1 g.2.2)]
noncomputable abbrev tileD (ts : List Row) : List D := (segs ts).map (tileOf ts)
noncomputable abbrev xsOf (ts : List Row) : List Int := (segs ts).map fun g => (g.1 : Int)
noncomputable abbrev qsOf (ts : List Row) : List Lot := (segs ts).map fun g => g.2.2
theorem segs_ne {ts : List Row} (h : ts ≠ []) : segs ts = (run ts).c ++ [((run ts).s, ts.length, (run ts).q)] := by unfold segs; rw [if_neg h]
theorem segs_len {ts : List Row} (hts : ∀ r ∈ ts, r ∈ rowsL) : (segs ts).length ≤ ts.length := by
 by_cases h : ts = []
 ·subst h; exact Nat.le_refl _
 ·have I := run_inv hts;rw [segs_ne h, List.length_append, List.length_singleton];have := I.len;rcases I.lt with ⟨h0, -⟩ | h1
  ·exact absurd (List.length_eq_zero_iff.mp h0) h
  ·exact ln2 90255446401 1411201 1473681 [_,_,_] [] this h1
theorem segs_good {ts : List Row} (hts : ∀ r ∈ ts, r ∈ rowsL) : ∀ g ∈ segs ts, g.1 < g.2.1 ∧ g.2.1 ≤ ts.length ∧ Good g.2.2 := by
 by_cases h : ts = []
 ·subst h; intro g hg; cases hg
 ·have I := run_inv hts;rw [segs_ne h];intro g hg;rcases List.mem_append.mp hg with hg | hg
  ·exact I.c g hg
  ·rw [List.mem_singleton.mp hg];refine in03 ?_ (Nat.le_refl _) I.g;rcases I.lt with ⟨h0, -⟩ | h1
   ·exact absurd (List.length_eq_zero_iff.mp h0) h
   ·exact h1
theorem segs_link {ts : List Row} (hts : ∀ r ∈ ts, r ∈ rowsL) (h : ts ≠ []) : (segs ts).map (·.2.1) = ((segs ts).map (·.1)).tail ++ [ts.length] := by
 have I := run_inv hts;rw [segs_ne h, List.map_append, List.map_append, I.link]
 rfl
theorem segs_one (r : Row) (hr : r ∈ rowsL) : segs [r] = [(0, 1, lot r)] := by
 rw [segs_ne (by simp)]
 have : run [r] = ⟨[], 0, lot r, 1⟩ := by
  show step ⟨[], 0, none, 0⟩ r = _
  unfold step;exact (if_neg (show ¬ comb none (lot r) = some [] from (lot_good hr).n)).trans rfl
 rw [this]
 rfl
theorem enum_cons {d : D} {rr : List D} {xs : List D} {k : Nat} (h : d :: rr = (xs.zipIdx k).map fun p => D.tup [.int (p.2 : Int), p.1]) : ∃ x xs', xs = x :: xs' ∧ d = .tup [.int k, x] ∧ rr = (xs'.zipIdx (k + 1)).map fun p => D.tup [.int (p.2 : Int), p.1] := by
 cases xs with
 | nil => cases h
 | cons x xs =>
  rw [List.zipIdx_cons, List.map_cons] at h;exact in23 x xs rfl (by simpa using congrArg List.head? h) (by simpa using congrArg List.tail h)
abbrev po_runs_spec (ts : List Row) (H : AH) : D → AH → Prop := fun d H' => ∃ a, d = .ref a ∧ Keep H H' ∧ H'[a]? = some (.list (tileD ts)) ∧ H.length ≤ a
noncomputable def frWV0 (x0 x1 : Mine.D) : Loc := [("text", some x0), ("data", some x1), ("is_augmented", some (.bool false)), ("most", some (.int 32)), ("maker", none), ("place", none), ("code", none), ("found", none), ("at", none), ("start", none), ("end", none)]
noncomputable def frWV1 (x0 x1 x2 : Mine.D) : Loc := [("text", some x0), ("data", some x1), ("is_augmented", some (.bool false)), ("most", some (.int 32)), ("maker", some x2), ("place", none), ("code", none), ("found", none), ("at", none), ("start", none), ("end", none)]
noncomputable def frWV2 (x0 x1 x2 : Mine.D) (x3 x4 : Option Mine.D) : Loc := [("text", some x0), ("data", some x1), ("is_augmented", some (.bool false)), ("most", some (.int 32)), ("maker", some x2), ("place", x3), ("code", x4), ("found", none), ("at", none), ("start", none), ("end", none)]
noncomputable abbrev ivWV0 (kd t : Nat) (ts : List Row) (H : AH) (js sr a b c : Nat) : List Mine.D → Loc → AH → Prop := fun zr0 zl zh => ∃ zv0 zv1, zl = (frWV2 (Mine.D.ref t) (Mine.D.ref kd) (Mine.D.ref sr) zv0 zv1 : Loc) ∧ (fun _ _ rr J => Keep H J ∧ ∃ pre rs, pre ++ rs = ts ∧ rr = ((textD rs).zipIdx pre.length).map (fun p => D.tup [.int (p.2 : Int), p.1]) ∧ SR J sr js kd a b c (xsOf pre) (qsOf pre)) zv0 zv1 zr0 zh
noncomputable def frWV3 (x0 x1 x2 x3 x4 : Mine.D) : Loc := [("text", some x0), ("data", some x1), ("is_augmented", some (.bool false)), ("most", some (.int 32)), ("maker", some x2), ("place", some x3), ("code", some x4), ("found", none), ("at", none), ("start", none), ("end", none)]
noncomputable def frWV4 (x0 x1 x2 : Mine.D) (x3 x4 : Option Mine.D) (x5 : Mine.D) : Loc := [("text", some x0), ("data", some x1), ("is_augmented", some (.bool false)), ("most", some (.int 32)), ("maker", some x2), ("place", x3), ("code", x4), ("found", some x5), ("at", none), ("start", none), ("end", none)]
noncomputable def frWV5 (x0 x1 x2 : Mine.D) (x3 x4 : Option Mine.D) (x5 : Mine.D) (x6 x7 x8 : Option Mine.D) : Loc := [("text", some x0), ("data", some x1), ("is_augmented", some (.bool false)), ("most", some (.int 32)), ("maker", some x2), ("place", x3), ("code", x4), ("found", some x5), ("at", x6), ("start", x7), ("end", x8)]
noncomputable abbrev ivWV1 (kd t sr : Nat) (u1 u2 : Option Mine.D) (pre : List Row) (f : Nat) (J2 : AH) : List Mine.D → Loc → AH → Prop := fun zr0 zl zh => ∃ zv0 zv1 zv2, zl = (frWV5 (Mine.D.ref t) (Mine.D.ref kd) (Mine.D.ref sr) u1 u2 (Mine.D.ref f) zv0 zv1 zv2 : Loc) ∧ (fun _ _ _ rr J3 => KeepBut (· = f) J2 J3 ∧ ∃ g1 g2, g1 ++ g2 = segs pre ∧ rr = ((g2.map (fun g => D.int (g.1 : Int))).zipIdx g1.length).map (fun p => D.tup [.int (p.2 : Int), p.1]) ∧ J3[f]? = some (.list (g1.map (tileOf pre)))) zv0 zv1 zv2 zr0 zh
noncomputable def frWV6 (x0 x1 x2 : Mine.D) (x3 x4 : Option Mine.D) (x5 x6 x7 : Mine.D) (x8 : Option Mine.D) : Loc := [("text", some x0), ("data", some x1), ("is_augmented", some (.bool false)), ("most", some (.int 32)), ("maker", some x2), ("place", x3), ("code", x4), ("found", some x5), ("at", some x6), ("start", some x7), ("end", x8)]
noncomputable def frWV7 (x0 x1 x2 : Mine.D) (x3 x4 : Option Mine.D) (x5 x6 x7 x8 : Mine.D) : Loc := [("text", some x0), ("data", some x1), ("is_augmented", some (.bool false)), ("most", some (.int 32)), ("maker", some x2), ("place", x3), ("code", x4), ("found", some x5), ("at", some x6), ("start", some x7), ("end", some x8)]
theorem runs_spec {m kd t : Nat} {ts : List Row} {H : AH} (hm : 140 ≤ m) (K : Kept H kd ts) (hts : ∀ r ∈ ts, r ∈ rowsL) (ht : H[t]? = some (.list (textD ts))) (hl : ts.length ≤ 50) :
  Rx ((ev ge m).cl (.fn 105) [.ref t, .ref kd] H) (po_runs_spec ts H) := by
 obtain ⟨n, rfl⟩ : ∃ n, m = n + 140 := ⟨m - 140, by exact Nat.le_antisymm (ln1 146800999233601 163905544980841 [_,_] [] (Nat.sub_add_cancel (ln1 90112224521 90112224521 [_] [] hm))) (ln1 144408584980801 157515784980801 [_,_] [] (Nat.sub_add_cancel (ln1 90112224521 90112224521 [_] [] hm)))⟩;refine zcF (frWV0 (Mine.D.ref t) (Mine.D.ref kd)) ?_;refine zsK ?_;refine zsN ?_;refine zK (.cls 86) ?_;refine zlC ?_;refine zN (.ref kd) ?_;refine zlC ?_;refine zN (.bool false) ?_;refine zlC ?_;refine zN (.int 32) ?_;refine l_nil ?_;refine c_cls' rfl ?_;intro js sr H1 k1 hj hr lj lr;refine (sr_init (by exact fu (by decide)) hr hj).mono ?_;intro _ H2 zi1;refine el02 zi1 fun zr2 zq3 => ?_;clear zi1;subst zr2;refine el34 zq3 fun a b c S kb la lb => ?_;clear zq3;refine ⟨rfl, ?_⟩;have k2 : Keep H H2 := fun i o e => kb i o (by have := lt_of_at e; exact fun hq => ln3 1200 1601601 1409681 1475201 [_,_,_] [] hq lj this) (k1 i o e);have l1 := k1.len;refine zsL (frWV1 (Mine.D.ref t) (Mine.D.ref kd) (Mine.D.ref sr)) ?_;refine zsK ?_;refine zsE ?_;refine zN (.ref t) ?_;refine in24 t _ rfl (listAt_of (k2 _ _ ht)) (by simp [maxLen]; exact ln1 90374164801 90115220801 [_] [] hl) ?_;refine zlp (ivWV0 kd t ts H js sr a b c) ?_ ?_ ?_
 ·intro d rr _ J zi1;refine el23 zi1 fun v1a v2a zr2 k zq3 => ?_;clear zi1;subst zr2;refine el23 zq3 fun pre rs hp hrr S => ?_;clear zq3;refine el23 (enum_cons hrr) fun y ys hy zr1 zr2 => ?_;subst zr1;subst zr2
  obtain ⟨x, rs, rfl, rfl, rfl⟩ : ∃ x rs', rs = x :: rs' ∧ y = .int x.1 ∧ ys = textD rs' := by
   cases rs with
   | nil => cases hy
   | cons x rs => exact ⟨x, rs, rfl, by simpa using (congrArg List.head? hy).symm, by simpa using (congrArg List.tail hy).symm⟩
  have hxt : x ∈ ts := by rw [← hp]; exact List.mem_append_right _ List.mem_cons_self
  have hpl : pre.length ≤ 50 := by have := congrArg List.length hp; simp at this; exact ln2 90115220801 90115220841 157517417859201 [_,_,_] [] hl this
  have hpre : ∀ r ∈ pre, r ∈ rowsL := fun r hr => hts r (by rw [← hp]; exact List.mem_append_left _ hr)
  have fin : ∀ {J' : AH}, KeepBut (fun i => i = a ∨ i = b) J J' → Keep H J' := by
   intro J' kb i o e;refine kb i o ?_ (k i o e);have := lt_of_at e
   rintro (rfl | rfl) <;> omega
  refine l_step ?_;refine zbT (frWV3 (Mine.D.ref t) (Mine.D.ref kd) (Mine.D.ref sr) (Mine.D.int (↑pre.length : Int)) (Mine.D.int x.fst)) ?_;refine zsK ?_;refine zsX ?_;refine zM ?_;refine zN (.ref sr) ?_;refine zmI S.inst (meth_of (f := 76) S.inst S.dict rfl (by kernel_rfl) (by kernel_rfl)) ?_;refine zlC ?_;refine zN (.int (↑pre.length : Int)) ?_;refine zlC ?_;refine zN (.int x.fst) ?_;refine l_nil ?_
  by_cases hpn : pre = []
  ·subst hpn;refine (sr_put0 (p := 0) (by exact fu (by decide)) S (K.keep k) (hts x hxt) hxt).mono ?_;intro _ J1 zi1;refine el03 zi1 fun zr2 S1 kb1 => ?_;clear zi1;subst zr2;have k1 := fin kb1;refine s_nil ?_;refine ⟨still_ref (k1 _ _ ht), _, _, rfl, k1, [x], rs, hp, rfl, ?_⟩;have e := segs_one x (hts x hxt)
   have e1 : xsOf [x] = [((0 : Nat) : Int)] := by unfold xsOf; rw [e]; rfl
   have e2 : qsOf [x] = [lot x] := by unfold qsOf; rw [e]; rfl
   rw [e1, e2];exact S1
  ·have I := run_inv hpre;have hgl := segs_len hpre;have hgs := segs_good hpre
   have e1 : xsOf pre = (run pre).c.map (fun g => (g.1 : Int)) ++ [((run pre).s : Int)] := by unfold xsOf; rw [segs_ne hpn, List.map_append]; rfl
   have e2 : qsOf pre = (run pre).c.map (fun g => g.2.2) ++ [(run pre).q] := by unfold qsOf; rw [segs_ne hpn, List.map_append]; rfl
   have hl1 : (xsOf pre).length ≤ pre.length := by rw [List.length_map]; exact hgl
   have hl2 : (qsOf pre).length ≤ pre.length := by rw [List.length_map]; exact hgl
   have hne : pre ++ [x] ≠ [] := by simp
   have e3 : xsOf (pre ++ [x]) = (step (run pre) x).c.map (fun g => (g.1 : Int)) ++ [((step (run pre) x).s : Int)] := by unfold xsOf; rw [segs_ne hne, run_snoc, List.map_append]; rfl
   have e4 : qsOf (pre ++ [x]) = (step (run pre) x).c.map (fun g => g.2.2) ++ [(step (run pre) x).q] := by unfold qsOf; rw [segs_ne hne, run_snoc, List.map_append]; rfl
   rw [e2] at S hl2
   obtain ⟨x0, xs0, e0⟩ : ∃ x0 xs0, xsOf pre = x0 :: xs0 := by rw [e1]; cases (run pre).c <;> simp
   rw [e0] at S hl1;refine (sr_put1 (p := pre.length) (by exact fu (by decide)) S (K.keep k) (hts x hxt) hxt (by simp at hl1; exact ln2 90115220801 90115220841 90255446401 [_,_] [] hpl hl1) (by simp at hl2 ⊢; exact ln2 90115220801 90115220841 90255446401 [_,_] [] hpl hl2) I.g.s (lot_good (hts x hxt)).s).mono ?_;intro _ J1 zi1;refine el03 zi1 fun zr2 S1 kb1 => ?_;clear zi1;subst zr2;have k1 := fin kb1;refine s_nil ?_;refine ⟨still_ref (k1 _ _ ht), _, _, rfl, k1, pre ++ [x], rs, by simpa using hp, by rw [List.length_append]; rfl, ?_⟩;rw [e3, e4];unfold step;rw [← e0, e1] at S1
   by_cases hc : comb (run pre).q (lot x) = some []
   ·rw [if_pos hc] at S1 ⊢;have hpp := I.p;dsimp only;rw [List.map_append, List.map_append, hpp];exact S1
   ·rw [if_neg hc] at S1 ⊢;exact S1
 ·intro _ J zi1;refine el23 zi1 fun u1 u2 zr2 k zq3 => ?_;clear zi1;subst zr2;refine el23 zq3 fun pre rs hp hrr S => ?_;clear zq3
  have : rs = [] := by
   cases rs with
   | nil => rfl
   | cons x rs => simp at hrr
  subst this;rw [List.append_nil] at hp;subst hp;refine zsK ?_;refine zsN ?_;refine zL ?_;refine l_nil ?_;refine ⟨by simp [maxLen], ?_⟩;intro f J2 kf hf lf;have kJ := k.len;have S2 := S.keep kf;refine zsL (frWV4 (Mine.D.ref t) (Mine.D.ref kd) (Mine.D.ref sr) u1 u2 (Mine.D.ref f)) ?_;refine zsK ?_;refine zsE ?_;refine zG ?_;refine zN (.ref sr) ?_;refine at_attr (d := .ref a) S2.inst S2.dict rfl (by kernel_rfl) (by kernel_rfl) ?_;have hgl := segs_len hts;have hgs := segs_good hts;refine in24 a _ rfl (listAt_of S2.sta) (by simp [maxLen]; exact ln2 90374164801 90115220841 1409601 [_,_] [] hl hgl) ?_;refine zlp (ivWV1 kd t sr u1 u2 pre f J2) ?_ ?_ ?_
  ·intro d rr _ J3 zi1;refine el33 zi1 fun v1b v2b v3b zr2 kb3 zq3 => ?_;clear zi1;subst zr2;refine el23 zq3 fun g1 g2 hg hrr hf3 => ?_;clear zq3;refine el23 (enum_cons hrr) fun y ys hy zr1 zr2 => ?_;subst zr1;subst zr2;refine el23 (map_cons_inv hy.symm) fun g g2 zr1 zr2 zr3 => ?_;subst zr1;subst zr2;subst zr3;have kJ3 : Keep J J3 := fun i o e => kb3 i o (by have := lt_of_at e; exact fun hq => ln3 1200 1601601 1409681 1475201 [_,_,_] [] hq lf this) (kf i o e);have S3 := S.keep kJ3;have K3 := K.keep (k.trans kJ3);have ht3 := (k.trans kJ3) _ _ ht
   have hpn : pre ≠ [] := by rintro rfl; simp [segs] at hg
   have hlink := segs_link hts hpn;have hgg := hgs g (by rw [← hg]; exact List.mem_append_right _ List.mem_cons_self)
   have hgl2 : g1.length + (g2.length + 1) ≤ pre.length := by have := congrArg List.length hg; simp at this; exact ln2 144574057857601 1411321 157845097857601 [_,_,_,_] [] hgl this
   have hnext : (if g1.length + 1 < (segs pre).length then some ((g2.map (·.1)).headD 0) else some pre.length) = some g.2.1 := by
    have h1 := congrArg (fun l => l[g1.length]?) hlink;rw [← hg] at h1 ⊢;rw [List.map_append, List.getElem?_append_right (by simp)] at h1;simp only [List.length_map, Nat.sub_self, List.map_cons, List.getElem?_cons_zero] at h1;rw [h1]
    cases g2 with
    | nil =>
     rw [if_neg (by simp)]
     cases g1 with
     | nil => simp
     | cons z g1 => simp
    | cons z g2 =>
     rw [if_pos (by simp)]
     cases g1 with
     | nil => simp
     | cons z g1 => simp
   refine l_step ?_;refine zbT (frWV6 (Mine.D.ref t) (Mine.D.ref kd) (Mine.D.ref sr) u1 u2 (Mine.D.ref f) (Mine.D.int (↑g1.length : Int)) (Mine.D.int (↑g.fst : Int)) v3b) ?_;refine zsK ?_;refine zsN ?_;refine zF ?_;refine ztC ?_;refine zP ?_;refine zN (.int (↑g1.length : Int)) ?_;refine zI ?_;refine b_add ?_;refine zK (.bi Bi.len) ?_;refine zlC ?_;refine zG ?_;refine zN (.ref sr) ?_;refine at_attr (d := .ref a) S3.inst S3.dict rfl (by kernel_rfl) (by kernel_rfl) ?_;refine l_nil ?_;refine c_bi ?_;refine w_len S3.sta (by simp [maxLen]; exact ln2 90374164801 90115220841 1409601 [_,_] [] hl hgl) ?_;refine k_lt ?_;rw [List.length_map, List.length_map]
   have hq : ((qsOf pre).map optL)[g1.length]? = some (optL g.2.2) := by
    unfold qsOf;rw [← hg, List.getElem?_map, List.getElem?_map, List.getElem?_append_right (Nat.le_refl _), Nat.sub_self]
    rfl
   by_cases hc : g1.length + 1 < (segs pre).length
   ·refine ite_t (by rw [decide_eq_true_eq]; exact ln1 180065897886401 94351446401 [_,_] [] hc) ?_;rw [if_pos hc] at hnext
    have hx : ((xsOf pre).map D.int)[g1.length + 1]? = some (.int g.2.1) := by
     unfold xsOf;rw [← hg, List.getElem?_map, List.getElem?_map, List.getElem?_append_right (by exact ln0 91753856001 [_] []), show g1.length + 1 - g1.length = 1 by exact Nat.le_antisymm (ln1 56406401 159913373185601 [_,_] [] (Nat.sub_add_cancel (ln0 91753856001 [_] []))) (ln1 56322161 166466973185601 [_,_] [] (Nat.sub_add_cancel (ln0 91753856001 [_] [])))]
     cases g2 with
     | nil => rw [← hg] at hc; simp at hc
     | cons z g2 =>
      rw [← Option.some.inj hnext]
      rfl
    refine zX ?_;refine zG ?_;refine zN (.ref sr) ?_;refine at_attr (d := .ref a) S3.inst S3.dict rfl (by kernel_rfl) (by kernel_rfl) ?_;refine zP ?_;refine zN (.int (↑g1.length : Int)) ?_;refine zI ?_;refine b_add ?_;refine g_list (r := .int g.2.1) S3.sta (by simp [maxLen]; exact ln2 90374164801 90115220841 1409601 [_,_] [] hl hgl) (nth_nat (k := g1.length + 1) hx) ?_;refine zsL (frWV7 (Mine.D.ref t) (Mine.D.ref kd) (Mine.D.ref sr) u1 u2 (Mine.D.ref f) (Mine.D.int (↑g1.length : Int)) (Mine.D.int (↑g.fst : Int)) (Mine.D.int (↑g.snd.fst : Int))) ?_;refine zsK ?_;refine zsX ?_;refine zM ?_;refine zN (.ref f) ?_;refine zmO hf3 ?_;refine zlC ?_;refine zT ?_;refine zlC ?_;refine zN (.int (↑g.fst : Int)) ?_;refine zlC ?_;refine zN (.int (↑g.snd.fst : Int)) ?_;refine zlC ?_;refine zK (.fn 97) ?_;refine zlC ?_;refine zN (.ref t) ?_;refine zlC ?_;refine zN (.int (↑g.fst : Int)) ?_;refine zlC ?_;refine zN (.int (↑g.snd.fst : Int)) ?_;refine zlC ?_;refine zX ?_;refine zG ?_;refine zN (.ref sr) ?_;refine at_attr (d := .ref b) S3.inst S3.dict rfl (by kernel_rfl) (by kernel_rfl) ?_;refine zN (.int (↑g1.length : Int)) ?_;refine g_list (r := optL g.2.2) S3.set (by simp [maxLen]; exact ln2 90374164801 90115220841 1409601 [_,_] [] hl hgl) (nth_nat hq) ?_;refine zlC ?_;refine zN (.ref kd) ?_;refine l_nil ?_;refine (script_of_run (by exact ln0 601318238475603968144521 [_] []) K3 hts ht3 hl hgg.2.2).mono ?_;intro _ J4 zi1;refine el02 zi1 fun zr2 k4 => ?_;clear zi1;subst zr2;refine l_nil ?_;refine l_nil ?_;refine m_append (k4 _ _ hf3) (by refine lm ?_; exact ln2 90374164801 90115220841 144410217859201 [_,_,_] [] hl hgl2) ?_;have hf5 := at_set (o' := .list (g1.map (tileOf pre) ++ [.tup [.int g.1, .int g.2.1, .str (word pre g.1 g.2.1 g.2.2)]])) (k4 _ _ hf3)
    have haf : f ≠ a := by have := lt_of_at S.sta; exact fun hq => ln3 1200 1537601 1408081 1475241 [_,_,_] [] hq lf this
    have ha5 := at_set_ne (o' := .list (g1.map (tileOf pre) ++ [.tup [.int g.1, .int g.2.1, .str (word pre g.1 g.2.1 g.2.2)]])) haf (k4 _ _ S3.sta);refine s_nil ?_;refine ⟨still_ref ha5, _, _, _, rfl, KeepBut.set (kb3.trans k4.but) rfl, g1 ++ [g], g2, by simpa using hg, by rw [List.length_append]; rfl, ?_⟩;rw [hf5, List.map_append]
    rfl
   ·refine ite_f (by rw [decide_eq_true_eq]; exact fun hq => ln2 1200 180065897886401 91753856041 [_,_] [] hq (Nat.le_of_not_lt hc)) ?_;rw [if_neg hc] at hnext;refine zK (.bi Bi.len) ?_;refine zlC ?_;refine zN (.ref t) ?_;refine l_nil ?_;refine c_bi ?_;refine w_len ht3 (by simp [maxLen]; exact ln1 90374164801 90115220801 [_] [] hl) ?_;rw [show ((textD pre).length : Int) = (g.2.1 : Int) by rw [← Option.some.inj hnext]; simp];refine zsL (frWV7 (Mine.D.ref t) (Mine.D.ref kd) (Mine.D.ref sr) u1 u2 (Mine.D.ref f) (Mine.D.int (↑g1.length : Int)) (Mine.D.int (↑g.fst : Int)) (Mine.D.int (↑g.snd.fst : Int))) ?_;refine zsK ?_;refine zsX ?_;refine zM ?_;refine zN (.ref f) ?_;refine zmO hf3 ?_;refine zlC ?_;refine zT ?_;refine zlC ?_;refine zN (.int (↑g.fst : Int)) ?_;refine zlC ?_;refine zN (.int (↑g.snd.fst : Int)) ?_;refine zlC ?_;refine zK (.fn 97) ?_;refine zlC ?_;refine zN (.ref t) ?_;refine zlC ?_;refine zN (.int (↑g.fst : Int)) ?_;refine zlC ?_;refine zN (.int (↑g.snd.fst : Int)) ?_;refine zlC ?_;refine zX ?_;refine zG ?_;refine zN (.ref sr) ?_;refine at_attr (d := .ref b) S3.inst S3.dict rfl (by kernel_rfl) (by kernel_rfl) ?_;refine zN (.int (↑g1.length : Int)) ?_;refine g_list (r := optL g.2.2) S3.set (by simp [maxLen]; exact ln2 90374164801 90115220841 1409601 [_,_] [] hl hgl) (nth_nat hq) ?_;refine zlC ?_;refine zN (.ref kd) ?_;refine l_nil ?_;refine (script_of_run (by exact ln0 601318238475603968144521 [_] []) K3 hts ht3 hl hgg.2.2).mono ?_;intro _ J4 zi1;refine el02 zi1 fun zr2 k4 => ?_;clear zi1;subst zr2;refine l_nil ?_;refine l_nil ?_;refine m_append (k4 _ _ hf3) (by refine lm ?_; exact ln2 90374164801 90115220841 144410217859201 [_,_,_] [] hl hgl2) ?_;have hf5 := at_set (o' := .list (g1.map (tileOf pre) ++ [.tup [.int g.1, .int g.2.1, .str (word pre g.1 g.2.1 g.2.2)]])) (k4 _ _ hf3)
    have haf : f ≠ a := by have := lt_of_at S.sta; exact fun hq => ln3 1200 1537601 1408081 1475241 [_,_,_] [] hq lf this
    have ha5 := at_set_ne (o' := .list (g1.map (tileOf pre) ++ [.tup [.int g.1, .int g.2.1, .str (word pre g.1 g.2.1 g.2.2)]])) haf (k4 _ _ S3.sta);refine s_nil ?_;refine ⟨still_ref ha5, _, _, _, rfl, KeepBut.set (kb3.trans k4.but) rfl, g1 ++ [g], g2, by simpa using hg, by rw [List.length_append]; rfl, ?_⟩;rw [hf5, List.map_append]
    rfl
  ·intro _ J3 zi1;refine el33 zi1 fun v1c v2c v3c zr2 kb3 zq3 => ?_;clear zi1;subst zr2;refine el23 zq3 fun g1 g2 hg hrr hf3 => ?_;clear zq3
   have : g2 = [] := by
    cases g2 with
    | nil => rfl
    | cons x rs => simp at hrr
   subst this;rw [List.append_nil] at hg;subst hg;refine zsK ?_;refine zsR ?_;refine zN (.ref f) ?_;refine in14 f rfl ?_ hf3 (by exact ln2 1409601 1409681 1411201 [_,_,_] [] lf kJ);intro i o e;exact kb3 i o (by have := lt_of_at (k i o e); exact fun hq => ln3 1200 1601601 1409681 1475201 [_,_,_] [] hq lf this) (kf i o (k i o e))
  ·exact in33 _ _ _ rfl (fun O O O e => e) ⟨[], segs pre, rfl, by rw [enumOf, List.map_map]; rfl, hf⟩
 ·exact in23 _ _ rfl k2 ⟨[], ts, rfl, rfl, S⟩
end Mine
end

-- WW
section
namespace Mine
theorem w_listt {H : AH} {ds : List D} {Q : D → AH → Prop} (hl : ds.length ≤ maxLen) (q : New H (.list ds) Q) : Rx (bcall H .list [.tup ds]) Q :=
 ⟨_, _, by unfold bcall newL alloc; dsimp only; rw [if_pos hl], New.at q⟩
theorem text_cons {d : D} {rr : List D} {rs : List Row} (h : d :: rr = textD rs) : ∃ x rs', rs = x :: rs' ∧ d = .int x.1 ∧ rr = textD rs' := by
 cases rs with
 | nil => cases h
 | cons x rs => exact ⟨x, rs, rfl, by simpa using congrArg List.head? h, by simpa using congrArg List.tail h⟩
theorem text_nil {rs : List Row} (h : [] = textD rs) : rs = [] := by simpa [textD] using h.symm
abbrev po_law_word (s e : Nat) (ts : List Row) (q : Lot) (H : AH) : D → AH → Prop := fun d H' => d = .str (word ts s e q) ∧ Keep H H'
noncomputable def frWW0 (x0 x1 x2 : D) : Loc := [("text", some x0), ("start", some x1), ("end", some x2), ("lot", some .none), ("own", none)]
noncomputable def frWW1 (x0 x1 x2 x3 : D) : Loc := [("text", some x0), ("start", some x1), ("end", some x2), ("lot", some x3), ("own", none)]
noncomputable def frWW2 (x0 x1 x2 x3 : D) : Loc := [(".0", none), ("code", none), ("text", some x0), ("start", some x1), ("end", some x2), ("lot", some x3), ("own", none)]
noncomputable def frWW3 (x0 : Option D) (x1 x2 x3 x4 : D) : Loc := [(".0", none), ("code", x0), ("text", some x1), ("start", some x2), ("end", some x3), ("lot", some x4), ("own", none)]
noncomputable abbrev ivWW0 (t s e : Nat) (ts : List Row) (l : List Str) (H1 : AH) : List D → List D → Loc → AH → Prop := fun zr0 zr1 zl zh => ∃ zv0, zl = (frWW3 zv0 (D.ref t) (D.int (↑s : Int)) (D.int (↑e : Int)) (D.tup (List.map D.str l)) : Loc) ∧ (fun _ rr acc J => Keep H1 J ∧ ∃ pre rs, pre ++ rs = (ts.take e).drop s ∧ rr = textD rs ∧ acc = ((pre.map own).filter fun w => l.any (· == w)).map D.str) zv0 zr0 zr1 zh
noncomputable def frWW4 (x0 x1 x2 x3 x4 : D) : Loc := [(".0", none), ("code", some x0), ("text", some x1), ("start", some x2), ("end", some x3), ("lot", some x4), ("own", none)]
noncomputable def frWW5 (x0 x1 x2 x3 x4 : D) : Loc := [("text", some x0), ("start", some x1), ("end", some x2), ("lot", some x3), ("own", some x4)]
theorem law_word {m t s e : Nat} {ts : List Row} {q : Lot} {H : AH} (hm : 60 ≤ m) (hts : ∀ r ∈ ts, r ∈ rowsL) (ht : H[t]? = some (.list (textD ts))) (hl : ts.length ≤ 50) (G : Good q) :
  Rx ((ev ge m).cl (.fn 299) [.ref t, .int s, .int e, optL q] H) (po_law_word s e ts q H) := by
 obtain ⟨n, rfl⟩ : ∃ n, m = n + 60 := ⟨m - 60, by exact Nat.le_antisymm (ln1 146800794433601 163905539860841 [_,_] [] (Nat.sub_add_cancel (ln1 90112096521 90112096521 [_] [] hm))) (ln1 144408579860801 157515779860801 [_,_] [] (Nat.sub_add_cancel (ln1 90112096521 90112096521 [_] [] hm)))⟩
 cases q with
 | none =>
  rw [show optL none = .none from rfl];refine zcF (frWW0 (D.ref t) (D.int (↑s : Int)) (D.int (↑e : Int))) ?_;refine zsK ?_;refine zsI ?_;refine ztC ?_;refine zN .none ?_;refine zO ?_;refine k_is ?_;refine ite_yes ?_;refine zsK ?_;refine zsR ?_;refine zS ?_;exact ⟨rfl, .refl _⟩
 | some l =>
  have l10 := G.s l rfl;rw [show optL (some l) = .tup (l.map .str) from rfl];refine zcF (frWW1 (D.ref t) (D.int (↑s : Int)) (D.int (↑e : Int)) (D.tup (List.map D.str l))) ?_;refine zsK ?_;refine zsI ?_;refine ztC ?_;refine zN (.tup (List.map D.str l)) ?_;refine zO ?_;refine k_is ?_;refine ite_no ?_;refine s_nil ?_;refine zsK ?_;refine zsC ?_;refine zY (frWW2 (D.ref t) (D.int (↑s : Int)) (D.int (↑e : Int)) (D.tup (List.map D.str l))) ?_;refine zZ ?_;refine zN (.ref t) ?_;refine o_some ?_;refine zN (.int (↑s : Int)) ?_;refine o_some ?_;refine zN (.int (↑e : Int)) ?_;refine o_none ?_;refine sl_list ht rfl rfl rfl (by simp [maxLen]; exact ln1 90374164801 90115220801 [_] [] hl) (cut_nat _ _ _) (by simp [maxLen]; exact ln2 146804998164801 1411201 90115220881 [_,_,_] [] (Nat.min_le_right _ _) hl) ?_;rw [textD_cut];intro a H1 k1 ha la;refine in23 _ _ (src_ref ha) (by simp [maxLen]; exact ln2 146804998164801 1411201 90115220881 [_,_,_] [] (Nat.min_le_right _ _) hl) ?_;refine zcp (ivWW0 t s e ts l H1) ?_ ?_ ?_
  ·intro d rr acc _ J zi1;refine el13 zi1 fun v1a zr2 k zq3 => ?_;clear zi1;subst zr2;refine el23 zq3 fun pre rs hp hrr zr4 => ?_;clear zq3;subst zr4;refine el23 (text_cons hrr) fun x rs zr1 zr2 zr3 => ?_;subst zr1;subst zr2;subst zr3;have hx : x ∈ rowsL := hts x (mem_cut (by rw [← hp]; exact List.mem_append_right _ List.mem_cons_self));refine zc1 ?_;refine zbT (frWW4 (D.int x.fst) (D.ref t) (D.int (↑s : Int)) (D.int (↑e : Int)) (D.tup (List.map D.str l))) ?_;refine ztC ?_;refine zK (.fn 284) ?_;refine zlC ?_;refine zN (.int x.fst) ?_;refine l_nil ?_;refine (law_own (by exact ln0 375823899039265328561 [_] []) hx).mono ?_;intro _ J1 zi1;refine el02 zi1 fun zr2 kj1 => ?_;clear zi1;subst zr2;refine zN (.tup (List.map D.str l)) ?_;refine k_ins l ?_
   cases hin : l.any (· == own x) with
   | true =>
    refine ite_yes ?_;refine zK (.fn 284) ?_;refine zlC ?_;refine zN (.int x.fst) ?_;refine l_nil ?_;refine (law_own (by exact ln0 375823899039367728561 [_] []) hx).mono ?_;intro _ J2 zi1;refine el02 zi1 fun zr2 kj2 => ?_;clear zi1;subst zr2;have kk := (k.trans kj1).trans kj2;refine ⟨still_ref (kk _ _ ha), _, rfl, kk, pre ++ [x], rs, by simpa using hp, rfl, ?_⟩;dsimp only;rw [List.map_append, List.map_singleton, filter_snoc, if_pos hin, List.map_append]
    rfl
   | false =>
    refine ite_no ?_;have kk := k.trans kj1;refine ⟨still_ref (kk _ _ ha), _, rfl, kk, pre ++ [x], rs, by simpa using hp, rfl, ?_⟩;dsimp only;rw [List.map_append, List.map_singleton, filter_snoc, if_neg (by simp [hin])]
  ·intro ys _ J zi1;refine el13 zi1 fun v1b zr2 k zq3 => ?_;clear zi1;subst zr2;refine el23 zq3 fun pre rs hp hrr hy => ?_;clear zq3;rw [text_nil hrr, List.append_nil] at hp;subst hp;rw [List.nil_append] at hy;subst hy;have hfl := List.length_filter_le (fun w => l.any (· == w)) (((ts.take e).drop s).map own)
   have hcl : ((ts.take e).drop s).length ≤ ts.length := by simp; exact ln1 2293889601 1409601 [_,_,_] [] (Nat.min_le_right _ _)
   rw [List.length_map] at hfl;refine ⟨by refine lm ?_; exact ln3 90374164801 90115220841 1411201 1409681 [_,_,_] [] hl hfl hcl, ?_⟩;intro b J1 kj hb lb;refine zsL (frWW5 (D.ref t) (D.int (↑s : Int)) (D.int (↑e : Int)) (D.tup (List.map D.str l)) (D.ref b)) ?_;refine zsK ?_;refine zsR ?_;refine zX ?_;refine zP ?_;refine zN (.ref b) ?_;refine zK (.bi Bi.list) ?_;refine zlC ?_;refine zN (.tup (List.map D.str l)) ?_;refine l_nil ?_;refine c_bi ?_;refine w_listt (by refine lm ?_; exact ln1 90374164801 56982401 [_] [] l10) ?_;intro c J2 kc hc lc;refine b_lists (kc _ _ hb) hc (by rw [List.length_append, List.length_map, List.length_map]; exact ln4 144598664705601 90115220881 56982441 1412801 1411321 [_,_,_,_] [] hl l10 hfl hcl) ?_;intro f J3 kf hf lf;refine zI ?_
   have e0 : ∀ (A l : List Str), l ≠ [] → (A.map D.str ++ l.map D.str)[0]? = some (.str ((A ++ l).headD "Zyyy")) := by
    intro A l hl
    cases A with
    | nil => cases l with
     | nil => exact absurd rfl hl
     | cons => rfl
    | cons => rfl
   refine g_list hf (by rw [List.length_append, List.length_map, List.length_map]; exact ln4 144598664705601 90115220881 56982441 1412801 1411321 [_,_,_,_] [] hl l10 hfl hcl) (nth_nat (k := 0) (e0 _ _ (fun h => G.n (by rw [h])))) ?_;exact ⟨rfl, (((k1.trans k).trans kj).trans kc).trans kf⟩
  ·exact in13 _ rfl (.refl _) ⟨[], _, rfl, rfl, rfl⟩
abbrev po_law_tiles (ts : List Row) (H : AH) : D → AH → Prop := fun d H' => ∃ a, d = .ref a ∧ Keep H H' ∧ H'[a]? = some (.list (tileD ts)) ∧ H.length ≤ a
noncomputable def frWW6 (x0 : D) : Loc := [("text", some x0), ("found", none), ("start", none), ("lot", none), ("place", none), ("code", none), ("both", none)]
noncomputable def frWW7 (x0 x1 : D) : Loc := [("text", some x0), ("found", some x1), ("start", some (.int 0)), ("lot", some .none), ("place", none), ("code", none), ("both", none)]
noncomputable def frWW8 (x0 x1 : D) (x2 x3 x4 x5 x6 : Option D) : Loc := [("text", some x0), ("found", some x1), ("start", x2), ("lot", x3), ("place", x4), ("code", x5), ("both", x6)]
noncomputable abbrev ivWW1 (t : Nat) (ts : List Row) (H : AH) (f : Nat) : List D → Loc → AH → Prop := fun zr0 zl zh => ∃ zv0 zv1 zv2 zv3 zv4, zl = (frWW8 (D.ref t) (D.ref f) zv0 zv1 zv2 zv3 zv4 : Loc) ∧ (fun st lo _ _ _ rr J => Keep H J ∧ ∃ pre rs, pre ++ rs = ts ∧ rr = ((textD rs).zipIdx pre.length).map (fun p => D.tup [.int (p.2 : Int), p.1]) ∧ J[f]? = some (.list ((run pre).c.map (tileOf ts))) ∧ st = some (.int (run pre).s) ∧ lo = some (optL (run pre).q)) zv0 zv1 zv2 zv3 zv4 zr0 zh
noncomputable def frWW9 (x0 x1 x2 x3 x4 x5 : D) (x6 : Option D) : Loc := [("text", some x0), ("found", some x1), ("start", some x2), ("lot", some x3), ("place", some x4), ("code", some x5), ("both", x6)]
noncomputable def frWW10 (x0 x1 x2 x3 x4 x5 x6 : D) : Loc := [("text", some x0), ("found", some x1), ("start", some x2), ("lot", some x3), ("place", some x4), ("code", some x5), ("both", some x6)]
theorem law_tiles {m t : Nat} {ts : List Row} {H : AH} (hm : 90 ≤ m) (hts : ∀ r ∈ ts, r ∈ rowsL) (ht : H[t]? = some (.list (textD ts))) (hl : ts.length ≤ 50) :
  Rx ((ev ge m).cl (.fn 306) [.ref t] H) (po_law_tiles ts H) := by
 obtain ⟨n, rfl⟩ : ∃ n, m = n + 90 := ⟨m - 90, by exact Nat.le_antisymm (ln1 146800871233601 163905541780841 [_,_] [] (Nat.sub_add_cancel (ln1 90112144521 90112144521 [_] [] hm))) (ln1 144408581780801 157515781780801 [_,_] [] (Nat.sub_add_cancel (ln1 90112144521 90112144521 [_] [] hm)))⟩;refine zcF (frWW6 (D.ref t)) ?_;refine zsK ?_;refine zsT ?_;refine zT ?_;refine zlC ?_;refine zL ?_;refine l_nil ?_;refine ⟨by simp [maxLen], ?_⟩;intro f H1 k1 hf lf;refine zlC ?_;refine zI ?_;refine zlC ?_;refine zO ?_;refine l_nil ?_;refine zbT (frWW7 (D.ref t) (D.ref f)) ?_;refine zsK ?_;refine zsE ?_;refine zN (.ref t) ?_;refine in24 t _ rfl (listAt_of (k1 _ _ ht)) (by simp [maxLen]; exact ln1 90374164801 90115220801 [_] [] hl) ?_;refine zlp (ivWW1 t ts H f) ?_ ?_ ?_
 ·intro d rr _ J zi1;refine el53 zi1 fun O O v1c v2c v3c zr2 k zq3 => ?_;clear zi1;subst zr2;refine el25 zq3 fun pre rs hp hrr hf zr4 zr5 => ?_;clear zq3;subst zr4;subst zr5;refine el23 (enum_cons hrr) fun y ys hy zr1 zr2 => ?_;subst zr1;subst zr2;refine el23 (text_cons hy.symm) fun x rs zr1 zr2 zr3 => ?_;subst zr1;subst zr2;subst zr3;have hx : x ∈ rowsL := hts x (by rw [← hp]; exact List.mem_append_right _ List.mem_cons_self)
  have hpl : pre.length ≤ 50 := by have := congrArg List.length hp; simp at this; exact ln2 90115220801 90115220841 157517417859201 [_,_,_] [] hl this
  have hpre : ∀ r ∈ pre, r ∈ rowsL := fun r hr => hts r (by rw [← hp]; exact List.mem_append_left _ hr);have I := run_inv hpre
  have hclen : (run pre).c.length ≤ 50 := by
   have := I.len;rcases I.lt with ⟨h0, e⟩ | h
   ·rw [e]; simp
   ·exact ln3 90115220801 90115220841 1411201 1473681 [_,_,_] [] hpl this h
  refine l_step ?_;refine zbT (frWW9 (D.ref t) (D.ref f) (D.int (↑(run pre).s : Int)) (optL (run pre).q) (D.int (↑pre.length : Int)) (D.int x.fst) v3c) ?_;refine zsK ?_;refine zsN ?_;refine zK (.fn 294) ?_;refine zlC ?_;refine zN (optL (run pre).q) ?_;refine zlC ?_;refine zK (.fn 289) ?_;refine zlC ?_;refine zN (.int x.fst) ?_;refine l_nil ?_;refine (law_lot (by exact ln0 601318238467575808080521 [_] []) hx).mono ?_;intro _ J1 zi1;refine el02 zi1 fun zr2 kj1 => ?_;clear zi1;subst zr2;refine l_nil ?_;refine (law_common (by exact ln0 375823899042337328561 [_] []) I.g.s (lot_good hx).s).mono ?_;intro _ J2 zi1;refine el02 zi1 fun zr2 kj2 => ?_;clear zi1;subst zr2;have k12 := kj1.trans kj2;have kH := k.trans k12;refine zsL (frWW10 (D.ref t) (D.ref f) (D.int (↑(run pre).s : Int)) (optL (run pre).q) (D.int (↑pre.length : Int)) (D.int x.fst) (optL (comb (run pre).q (lot x)))) ?_;refine zsK ?_;refine zsI ?_;refine ztC ?_;refine zN (optL (comb (run pre).q (lot x))) ?_;refine zT ?_;refine l_nil ?_;refine k_eq (eq_empty _ _) ?_
  by_cases hc : comb (run pre).q (lot x) = some []
  ·refine ite_t (by simpa using hc) ?_;refine zsK ?_;refine zsX ?_;refine zM ?_;refine zN (.ref f) ?_;refine zmO (k12 _ _ hf) ?_;refine zlC ?_;refine zT ?_;refine zlC ?_;refine zN (.int (↑(run pre).s : Int)) ?_;refine zlC ?_;refine zN (.int (↑pre.length : Int)) ?_;refine zlC ?_;refine zK (.fn 299) ?_;refine zlC ?_;refine zN (.ref t) ?_;refine zlC ?_;refine zN (.int (↑(run pre).s : Int)) ?_;refine zlC ?_;refine zN (.int (↑pre.length : Int)) ?_;refine zlC ?_;refine zN (optL (run pre).q) ?_;refine l_nil ?_;refine (law_word (by exact ln0 601318238467248128096521 [_] []) hts (kH _ _ ht) hl I.g).mono ?_;intro _ J3 zi1;refine el02 zi1 fun zr2 kj3 => ?_;clear zi1;subst zr2;have k13 := k12.trans kj3;refine l_nil ?_;refine l_nil ?_;refine m_append (k13 _ _ hf) (by refine lm ?_; exact ln1 90374164801 90115220801 [_] [] hclen) ?_;have hf4 := at_set (o' := .list ((run pre).c.map (tileOf ts) ++ [.tup [.int (run pre).s, .int pre.length, .str (word ts (run pre).s pre.length (run pre).q)]])) (k13 _ _ hf);have k4 : Keep H (J3.set f (.list ((run pre).c.map (tileOf ts) ++ [.tup [.int (run pre).s, .int pre.length, .str (word ts (run pre).s pre.length (run pre).q)]]))) := (k.trans k13).set lf;generalize J3.set f (.list ((run pre).c.map (tileOf ts) ++ [.tup [.int (run pre).s, .int pre.length, .str (word ts (run pre).s pre.length (run pre).q)]])) = J4 at *;refine zsK ?_;refine zsT ?_;refine zT ?_;refine zlC ?_;refine zN (.int (↑pre.length : Int)) ?_;refine zlC ?_;refine zK (.fn 289) ?_;refine zlC ?_;refine zN (.int x.fst) ?_;refine l_nil ?_;refine (law_lot (by exact ln0 601318238467411968080521 [_] []) hx).mono ?_;intro _ J5 zi1;refine el02 zi1 fun zr2 kj5 => ?_;clear zi1;subst zr2;refine l_nil ?_;refine zbT (frWW10 (D.ref t) (D.ref f) (D.int (↑pre.length : Int)) (optL (run pre).q) (D.int (↑pre.length : Int)) (D.int x.fst) (optL (lot x))) ?_;refine s_nil ?_;refine zsK ?_;refine zsN ?_;refine zN (optL (lot x)) ?_;refine zsL (frWW10 (D.ref t) (D.ref f) (D.int (↑pre.length : Int)) (optL (lot x)) (D.int (↑pre.length : Int)) (D.int x.fst) (optL (lot x))) ?_;refine s_nil ?_;have kH5 := k4.trans kj5
   have e : run (pre ++ [x]) = ⟨(run pre).c ++ [((run pre).s, (run pre).p, (run pre).q)], (run pre).p, lot x, (run pre).p + 1⟩ := by
    rw [run_snoc]; unfold step; rw [if_pos hc]
   rw [I.p] at e;refine ⟨still_ref (kH5 _ _ ht), _, _, _, _, _, rfl, kH5, pre ++ [x], rs, by simpa using hp, by rw [List.length_append]; rfl, ?_, by rw [e], by rw [e]⟩;rw [kj5 _ _ hf4, e, List.map_append]
   rfl
  ·refine ite_f (by simpa using hc) ?_;refine s_nil ?_;refine zsK ?_;refine zsN ?_;refine zN (optL (comb (run pre).q (lot x))) ?_;refine zsL (frWW10 (D.ref t) (D.ref f) (D.int (↑(run pre).s : Int)) (optL (comb (run pre).q (lot x))) (D.int (↑pre.length : Int)) (D.int x.fst) (optL (comb (run pre).q (lot x)))) ?_;refine s_nil ?_
   have e : run (pre ++ [x]) = ⟨(run pre).c, (run pre).s, comb (run pre).q (lot x), (run pre).p + 1⟩ := by
    rw [run_snoc]; unfold step; rw [if_neg hc]
   refine ⟨still_ref (kH _ _ ht), _, _, _, _, _, rfl, kH, pre ++ [x], rs, by simpa using hp, by rw [List.length_append]; rfl, ?_, by rw [e], by rw [e]⟩;rw [k12 _ _ hf, e]
 ·intro _ J zi1;refine el53 zi1 fun O O v1d v2d v3d zr2 k zq3 => ?_;clear zi1;subst zr2;refine el25 zq3 fun pre rs hp hrr hf zr4 zr5 => ?_;clear zq3;subst zr4;subst zr5
  have : rs = [] := by
   cases rs with
   | nil => rfl
   | cons x rs => simp at hrr
  subst this;rw [List.append_nil] at hp;subst hp;have I := run_inv hts;refine zsK ?_;refine zsR ?_;refine zF ?_;refine ztC ?_;refine zN (.ref t) ?_;refine zL ?_;refine l_nil ?_;refine ⟨by simp [maxLen], ?_⟩;intro g J1 kj1 hg lg;have k1' := k.trans kj1;refine ne_nil (k1' _ _ ht) hg ?_
  by_cases hpn : pre = []
  ·subst hpn;refine ite_no ?_;refine zN (.ref f) ?_;refine in14 f rfl k1' ?_ lf;rw [kj1 _ _ hf]
   rfl
  ·refine ite_t (by simpa using hpn) ?_
   have hclen : (run pre).c.length ≤ 50 := by
    have := I.len;rcases I.lt with ⟨h0, e⟩ | h
    ·rw [e]; simp
    ·exact ln3 90115220801 90115220841 1411201 1473681 [_,_,_] [] hl this h
   refine zP ?_;refine zN (.ref f) ?_;refine zL ?_;refine zlC ?_;refine zT ?_;refine zlC ?_;refine zN (.int (↑(run pre).s : Int)) ?_;refine zlC ?_;refine zK (.bi Bi.len) ?_;refine zlC ?_;refine zN (.ref t) ?_;refine l_nil ?_;refine c_bi ?_;refine w_len (k1' _ _ ht) (by simp [maxLen]; exact ln1 90374164801 90115220801 [_] [] hl) ?_;refine zlC ?_;refine zK (.fn 299) ?_;refine zlC ?_;refine zN (.ref t) ?_;refine zlC ?_;refine zN (.int (↑(run pre).s : Int)) ?_;refine zlC ?_;refine zK (.bi Bi.len) ?_;refine zlC ?_;refine zN (.ref t) ?_;refine l_nil ?_;refine c_bi ?_;refine w_len (k1' _ _ ht) (by simp [maxLen]; exact ln1 90374164801 90115220801 [_] [] hl) ?_;refine zlC ?_;refine zN (optL (run pre).q) ?_;refine l_nil ?_;rw [show ((textD pre).length : Int) = (pre.length : Int) by simp];refine (law_word (by exact ln0 601318238467248128096521 [_] []) hts (k1' _ _ ht) hl I.g).mono ?_;intro _ J2 zi1;refine el02 zi1 fun zr2 kj2 => ?_;clear zi1;subst zr2;refine l_nil ?_;refine l_nil ?_;refine ⟨by simp [maxLen], ?_⟩;intro h J3 kj3 hh lh;have k3 := (kj1.trans kj2).trans kj3;refine b_lists (k3 _ _ hf) hh (by rw [List.length_append, List.length_map, List.length_singleton]; exact ln1 5783946588246401 90115220801 [_] [] hclen) ?_;intro i J4 kj4 hi li;have k4 := k3.trans kj4;refine in14 i rfl (k.trans k4) ?_ ?_
   ·rw [hi];unfold tileD;rw [segs_ne hpn, List.map_append]
    rfl
   ·have := (k.trans k3).len; exact ln2 1409601 1409681 1411201 [_,_,_] [] li this
 ·exact in53 _ _ _ _ _ rfl k1 ⟨[], ts, rfl, rfl, hf, rfl, rfl⟩
end Mine
end

-- WX
section
namespace Mine
structure Sh (k : Nat) (p : PyData) : Prop where
 a : p.showable = true
 b : p.leavesShort 13 = true
 c : p.bulk ≤ k
 d : p.hasDict = false
theorem Sh.mono {k k' : Nat} {p : PyData} (h : Sh k p) (hk : k ≤ k') : Sh k' p := ⟨h.a, h.b, Nat.le_trans h.c hk, h.d⟩
theorem sh_none {k : Nat} : Sh k .none := ⟨rfl, rfl, Nat.zero_le _, rfl⟩
theorem int_all : ∀ i : Fin 101, (PyData.int (i.val : Int)).showable = true ∧ (PyData.int (i.val : Int)).leavesShort 13 = true := by decide +kernel
theorem sh_int {k : Nat} {i : Int} (h0 : 0 ≤ i) (h1 : i ≤ 100) : Sh k (.int i) := by
 have h := int_all ⟨i.toNat, by exact ln2 94214484801 72222401 106502421121 [_] [_] (Int.toNat_of_nonneg (ln1 67072561 67072561 [] [_] h0)) h1⟩;rw [show ((⟨i.toNat, by exact ln2 94214484801 72222401 106502421121 [_] [_] (Int.toNat_of_nonneg (ln1 67072561 67072561 [] [_] h0)) h1⟩ : Fin 101).val : Int) = i by show (i.toNat : Int) = i; exact Int.le_antisymm (ln1 67102401 72222401 [_] [_] (Int.toNat_of_nonneg (ln1 67072561 67072561 [] [_] h0))) (ln1 67776321 74782401 [_] [_] (Int.toNat_of_nonneg (ln1 67072561 67072561 [] [_] h0)))] at h;exact ⟨h.1, h.2, Nat.zero_le _, rfl⟩
noncomputable def strS (x : Str) : Bool := x.cps.toList.all (fun c => decide (c < 16 ^ 8)) && decide (x.cps.size ≤ 8)
theorem sh_str {x : Str} (h : strS x = true) : Sh 8 (.str x) := by
 unfold strS at h;rw [Bool.and_eq_true, decide_eq_true_eq] at h;exact ⟨rfl, by simpa only [PyData.leavesShort] using h.1, h.2, rfl⟩
theorem sh_all {k : Nat} : ∀ {ps : List PyData}, (∀ p ∈ ps, Sh k p) → PyData.showableAll ps = true ∧ PyData.leavesShortAll 13 ps = true ∧ PyData.bulkAll ps ≤ ps.length * (k + 1) ∧ PyData.hasDictAll ps = false
 | [], _ => ⟨rfl, rfl, Nat.zero_le _, rfl⟩
 | p :: ps, h => by
  have h1 := h p List.mem_cons_self;refine el04 (sh_all fun q hq => h q (List.mem_cons_of_mem _ hq)) fun a b c d => ?_;refine in04 ?_ ?_ ?_ ?_
  ·unfold PyData.showableAll; rw [h1.a, a]; rfl
  ·unfold PyData.leavesShortAll; rw [h1.b, b]; rfl
  ·unfold PyData.bulkAll;have := h1.c;rw [List.length_cons, Nat.succ_mul];exact ln2 15039110598230159446401 1411241 1412801 [_,_,_,_] [] c this
  ·unfold PyData.hasDictAll; rw [h1.d, d]; rfl
theorem sh_tup {k m : Nat} {ps : List PyData} (h : ∀ p ∈ ps, Sh k p) (hm : ps.length * (k + 1) ≤ m) : Sh m (.tuple ps) := by
 refine el04 (sh_all h) fun a b c d => ?_;exact ⟨by simpa only [PyData.showable] using a, by simpa only [PyData.leavesShort] using b, by simp only [PyData.bulk]; exact ln2 1409601 1409681 1411201 [_,_,_] [] hm c, by simpa only [PyData.hasDict] using d⟩
theorem sh_list {k m : Nat} {ps : List PyData} (h : ∀ p ∈ ps, Sh k p) (hm : ps.length * (k + 1) ≤ m) : Sh m (.list ps) := by
 refine el04 (sh_all h) fun a b c d => ?_;exact ⟨by simpa only [PyData.showable] using a, by simpa only [PyData.leavesShort] using b, by simp only [PyData.bulk]; exact ln2 1409601 1409681 1411201 [_,_,_] [] hm c, by simpa only [PyData.hasDict] using d⟩
theorem Sh.ok {k : Nat} {p : PyData} (h : Sh k p) (hk : k ≤ 2 ^ 20) : showOk p = true := by
 unfold showOk;rw [h.a, h.b, h.d, decide_eq_true (Nat.le_trans h.c hk)]
 rfl
noncomputable def OkF (n k : Nat) (d : D) : Prop := ∃ p, (∀ H, py H n d = some p) ∧ Sh k p
theorem OkF.mono {n k k' : Nat} {d : D} (h : OkF n k d) (hk : k ≤ k') : OkF n k' d := let ⟨p, a, b⟩ := h; ⟨p, a, b.mono hk⟩
theorem okf_none {n k : Nat} : OkF n k .none := ⟨.none, fun H => by cases n <;> rfl, sh_none⟩
theorem okf_int {n k : Nat} {i : Int} (h0 : 0 ≤ i) (h1 : i ≤ 100) : OkF n k (.int i) := ⟨.int i, fun H => by cases n <;> rfl, sh_int h0 h1⟩
theorem okf_str {n : Nat} {x : Str} (h : strS x = true) : OkF n 8 (.str x) := ⟨.str x, fun H => by cases n <;> rfl, sh_str h⟩
theorem okf_all {n k : Nat} : ∀ {ds : List D}, (∀ d ∈ ds, OkF n k d) → ∃ ps, (∀ H, omap (py H n) ds = some ps) ∧ (∀ p ∈ ps, Sh k p) ∧ ps.length = ds.length
 | [], _ => ⟨[], fun _ => rfl, by simp, rfl⟩
 | d :: ds, h => by
  refine el12 (h d List.mem_cons_self) fun p a b => ?_;refine el13 (okf_all fun d' hd => h d' (List.mem_cons_of_mem _ hd)) fun ps as bs l => ?_;refine in13 (p :: ps) (fun H => ?_) ?_ (by simp [l])
  ·unfold omap; rw [a H]; dsimp only; rw [as H]
  ·intro q hq;rcases List.mem_cons.mp hq with rfl | hq
   ·exact b
   ·exact bs q hq
theorem okf_tup {n k m : Nat} {ds : List D} (h : ∀ d ∈ ds, OkF n k d) (hm : ds.length * (k + 1) ≤ m) : OkF (n + 1) m (.tup ds) := by
 refine el13 (okf_all h) fun ps a b l => ?_;exact in12 (.tuple ps) (fun H => by unfold py; dsimp only; rw [a H]; rfl) (sh_tup b (by rw [l]; exact hm))
theorem w_repr {H : AH} {d : D} {p : PyData} {k : Nat} {Q : D → AH → Prop} (h : py H 3 d = some p) (s : Sh k p) (hk : k ≤ 2 ^ 20) (q : Q (.txt p.shown) H) : Rx (bcall H .repr [d]) Q :=
 ⟨_, _, by unfold bcall; dsimp only; rw [h]; dsimp only; rw [if_pos (s.ok hk)], q⟩
theorem repr_val {k : Nat} {d : D} (h : OkF 3 k d) (hk : k ≤ 2 ^ 20) : ∃ x : Str, ∀ (H : AH) (Q : D → AH → Prop), Q (.txt x) H → Rx (bcall H .repr [d]) Q := by
 refine el12 h fun p a b => ?_;clear h;exact ⟨p.shown, fun H Q q => w_repr (a H) b hk q⟩
theorem repr_list {k : Nat} {ds : List D} (h : ∀ d ∈ ds, OkF 2 k d) (hk : ds.length * (k + 1) ≤ 2 ^ 20) : ∃ x : Str, ∀ (H : AH) (i : Nat) (Q : D → AH → Prop), H[i]? = some (.list ds) → Q (.txt x) H → Rx (bcall H .repr [.ref i]) Q := by
 refine el13 (okf_all h) fun ps a b l => ?_;exact ⟨(PyData.list ps).shown, fun H i Q hi q => w_repr (by unfold py; dsimp only; rw [listAt_of hi]; dsimp only; rw [a H]; rfl) (sh_list b (Nat.le_of_eq (by rw [l]))) hk q⟩
theorem repr_pair {k : Nat} {ds es : List D} (h : ∀ d ∈ ds, OkF 1 k d) (h' : ∀ d ∈ es, OkF 1 k d) (hk : (ds.length + es.length + 2) * (k + 1) ≤ 2 ^ 18) : ∃ x : Str, ∀ (H : AH) (i j l : Nat) (Q : D → AH → Prop), H[i]? = some (.list ds) → H[j]? = some (.list es) → H[l]? = some (.list [.ref i, .ref j]) → Q (.txt x) H → Rx (bcall H .repr [.ref l]) Q := by
 refine el13 (okf_all h) fun ps a b e4 => ?_;refine el13 (okf_all h') fun qs a' b' e5 => ?_;refine ⟨(PyData.list [.list ps, .list qs]).shown, fun H i j l Q hi hj hl q => ?_⟩
 have e1 : py H 2 (.ref i) = some (.list ps) := by unfold py; dsimp only; rw [listAt_of hi]; dsimp only; rw [a H]; rfl
 have e2 : py H 2 (.ref j) = some (.list qs) := by unfold py; dsimp only; rw [listAt_of hj]; dsimp only; rw [a' H]; rfl
 have e3 : py H 3 (.ref l) = some (.list [.list ps, .list qs]) := by
  unfold py; dsimp only; rw [listAt_of hl]; dsimp only;unfold omap; rw [e1]; dsimp only;unfold omap; rw [e2]; dsimp only
  rfl
 have s1 : Sh (ps.length * (k + 1)) (.list ps) := sh_list b (Nat.le_refl _);have s2 : Sh (qs.length * (k + 1)) (.list qs) := sh_list b' (Nat.le_refl _)
 have hk2 : ps.length * (k + 1) + qs.length * (k + 1) + 2 * (k + 1) ≤ 2 ^ 18 := by
  rw [e4, e5, ← Nat.add_mul, ← Nat.add_mul];exact hk
 refine w_repr (k := 2 * (2 ^ 18 + 1)) e3 (sh_list (k := 2 ^ 18) ?_ (Nat.le_refl _)) (by decide) q;intro p hp;rcases List.mem_cons.mp hp with rfl | hp
 ·exact s1.mono (by exact ln1 144195977240001 1512004410311027204759793665601 [_,_,_] [] hk2)
 ·rw [List.mem_singleton.mp hp]; exact s2.mono (by exact ln1 144195977240001 1512004410311027204759793664041 [_,_,_] [] hk2)
theorem eq_txt {H : AH} (a b : Str) : isEq H (.txt a) (.txt b) = some (decide (a = b)) := rfl
theorem kasRun_bind {α β : Type} (c : Nat → Nat → Bool) (f : α → KasT β) : ∀ t : KasT α, kasRun c (t.bind f) = kasRun c (f (kasRun c t))
 | .ret _ => rfl
 | .ask i j k => kasRun_bind c f (k (c i j))
theorem kr_ask {α : Type} (c : Nat → Nat → Bool) (i j : Nat) (k : Bool → KasT α) : kasRun c (.ask i j k) = kasRun c (k (c i j)) := rfl
theorem kr_ite {α : Type} (c : Nat → Nat → Bool) (b : Prop) [Decidable b] (x y : KasT α) : kasRun c (if b then x else y) = if b then kasRun c x else kasRun c y := by split <;> rfl
theorem kr_rev (p : Array Nat) (i j : Nat) : (kas_rev p i j).size = p.size := mirror_size _ _ _ _
theorem kr_desc (c : Nat → Nat → Bool) : ∀ (f : Nat) (p : Array Nat) (n q : Nat), (kasRun c (kas_desc f p n q)).1.size = p.size
 | 0, p, n, q => rfl
 | f + 1, p, n, q => by
  unfold kas_desc;rw [kr_ask, kr_ite]
  split
  ·rw [kr_ite]
   split
   ·rw [kr_desc c f, kr_rev]
   ·rw [kr_desc c f]
  ·rw [kr_ask, kr_ite]
   split
   ·rfl
   ·rw [kr_desc c f]
theorem kr_tail (c : Nat → Nat → Bool) (n m : Nat) (p : Array Nat) : (kasRun c (kas_tail3 n m p)).2.size = p.size := by
 unfold kas_tail3;rw [kasRun_bind];exact kr_rev _ _ _
theorem kr_part (c : Nat → Nat → Bool) (n m : Nat) (p : Array Nat) : (kasRun c (kas_descPart n m p)).2.size = p.size := by
 unfold kas_descPart;rw [kasRun_bind, kr_ite]
 split
 ·rw [kr_tail, kr_rev, kr_desc]
 ·rw [kr_tail, kr_desc]
theorem kr_count (c : Nat → Nat → Bool) (m : Nat) (p : Array Nat) : (kasRun c (kas_count m p)).2.size = p.size := by
 unfold kas_count;rw [kasRun_bind, kr_ite]
 split
 ·rfl
 ·rw [kr_ite]
  split
  ·rw [kr_ask, kr_ite]
   split
   ·rfl
   ·rw [kr_part, kr_rev]
  ·rw [kr_part]
theorem kr_bin (c : Nat → Nat → Bool) : ∀ (f : Nat) (p : Array Nat) (k : Nat), (kasRun c (kas_bin f p k)).size = p.size
 | 0, p, k => rfl
 | f + 1, p, k => by
  unfold kas_bin;rw [kasRun_bind, kr_bin c f, bubble_size]
theorem kr_sort (c : Nat → Nat → Bool) (n : Nat) : (kasRun c (kas_sort n)).size = n := by
 unfold kas_sort;rw [kasRun_bind, kr_ite]
 split
 ·rw [kr_bin, kr_count]; simp
 ·show (kasRun c (kas_count n _)).2.size = n
  rw [kr_count]; simp
theorem srtE_len (es : List (Str × D)) : (srtE es).length = es.length := by
 unfold srtE
 split
 ·simp
 ·rw [List.length_map, Array.length_toList, kr_sort]
theorem srtE_mem {es : List (Str × D)} {d : D} (h : d ∈ srtE es) : d = .none ∨ ∃ e ∈ es, d = pairOf e := by
 unfold srtE at h
 split at h
 ·refine el12 (List.mem_map.mp h) fun e he zr1 => ?_;subst zr1;exact .inr ⟨e, he, rfl⟩
 ·refine el12 (List.mem_map.mp h) fun i hi zr1 => ?_;subst zr1;rw [List.getD_eq_getElem?_getD]
  rcases hx : (es.map pairOf)[i]? with _ | x
  ·exact .inl rfl
  ·have := List.mem_of_getElem? hx;refine el12 (List.mem_map.mp this) fun e he zr1 => ?_;subst zr1;exact .inr ⟨e, he, rfl⟩
end Mine
end

-- WY
section
namespace Mine
noncomputable abbrev Tri := Nat × Nat × Str
noncomputable abbrev triD (x : Tri) : D := .tup [.int x.1, .int x.2.1, .str x.2.2]
noncomputable def tri (ts : List Row) : List Tri := (segs ts).map fun g => (g.1, g.2.1, word ts g.1 g.2.1 g.2.2)
theorem tile_tri (ts : List Row) : tileD ts = (tri ts).map triD := by unfold tri tileD; rw [List.map_map]; rfl
theorem tri_len {ts : List Row} (hts : ∀ r ∈ ts, r ∈ rowsL) : (tri ts).length ≤ ts.length := by unfold tri; rw [List.length_map]; exact segs_len hts
theorem tri_good {ts : List Row} (hts : ∀ r ∈ ts, r ∈ rowsL) : ∀ x ∈ tri ts, x.1 < x.2.1 ∧ x.2.1 ≤ ts.length ∧ x.2.2 ∈ wordsL := by
 intro x hx;refine el12 (List.mem_map.mp hx) fun g hg zr1 => ?_;subst zr1;have := segs_good hts g hg;exact in03 this.1 this.2.1 (word_mem this.2.2)
noncomputable def putI : List (Str × Int) → Str → Int → List (Str × Int)
 | [], k, v => [(k, v)]
 | (k', v') :: r, k, v => if k' == k then (k', v) :: r else (k', v') :: putI r k v
noncomputable abbrev intD (es : List (Str × Int)) : List (Str × D) := es.map fun p => (p.1, D.int p.2)
theorem putE_intD (es : List (Str × Int)) (k : Str) (v : Int) : putE (intD es) k (.int v) = intD (putI es k v) := by
 induction es with
 | nil => rfl
 | cons e es ih =>
  obtain ⟨k', v'⟩ := e;unfold putI
  show putE ((k', D.int v') :: intD es) k (.int v) = _
  unfold putE
  split
  ·rfl
  ·rw [ih]; rfl
theorem lookup_intD (es : List (Str × Int)) (k : Str) : (intD es).lookup k = (es.lookup k).map D.int := by
 induction es with
 | nil => rfl
 | cons e es ih =>
  obtain ⟨k', v'⟩ := e
  show List.lookup k ((k', D.int v') :: intD es) = _
  unfold List.lookup
  split
  ·rfl
  ·exact ih
theorem putI_lookup (es : List (Str × Int)) (k k2 : Str) (v : Int) : (putI es k v).lookup k2 = if k2 = k then some v else es.lookup k2 := by
 induction es with
 | nil =>
  unfold putI
  by_cases h : k2 = k
  ·subst h; simp [List.lookup]
  ·rw [if_neg h]
   have h' : (k2 == k) = false := by simp; exact h
   simp [List.lookup, h']
 | cons e es ih =>
  obtain ⟨k', v'⟩ := e;unfold putI
  by_cases hk : k' = k
  ·subst hk
   by_cases h : k2 = k'
   ·subst h; simp [List.lookup]
   ·have h' : (k2 == k') = false := by simp; exact h
    simp [List.lookup, h', h]
  ·by_cases h : k2 = k'
   ·subst h; simp [List.lookup, hk]
   ·have h' : (k2 == k') = false := by simp; exact h
    simp [hk, List.lookup, h', ih]
theorem putI_len (es : List (Str × Int)) (k : Str) (v : Int) : (putI es k v).length ≤ es.length + 1 := by
 induction es with
 | nil => simp [putI]
 | cons e es ih =>
  obtain ⟨k', v'⟩ := e;unfold putI
  split
  ·simp
  ·simp; with_reducible assumption
set_option tactic.hygienic true in
theorem putI_mem {es : List (Str × Int)} {k : Str} {v : Int} {p : Str × Int} (h : p ∈ putI es k v) : p = (k, v) ∨ p ∈ es := by
 induction es with
 | nil => exact .inl (by simpa [putI] using h)
 | cons e es ih =>
  obtain ⟨k', v'⟩ := e;unfold putI at h
  split at h
  ·rename_i hk;rw [beq_iff_eq] at hk;subst hk;rcases List.mem_cons.mp h with h | h
   ·exact .inl h
   ·exact .inr (List.mem_cons_of_mem _ h)
  ·rcases List.mem_cons.mp h with h | h
   ·exact .inr (by rw [h]; exact List.mem_cons_self)
   ·rcases ih h with h | h
    ·exact .inl h
    ·exact .inr (List.mem_cons_of_mem _ h)
noncomputable def addC (es : List (Str × Int)) (x : Tri) : List (Str × Int) := putI es x.2.2 ((es.lookup x.2.2).getD 0 + x.2.1 - x.1)
noncomputable def counts (L : List Tri) : List (Str × Int) := L.foldl addC []
theorem counts_snoc (L : List Tri) (x : Tri) : counts (L ++ [x]) = addC (counts L) x := by unfold counts; rw [List.foldl_append]; rfl
theorem snoc_ind {α : Type} {P : List α → Prop} (h0 : P []) (h1 : ∀ l x, P l → P (l ++ [x])) : ∀ l, P l := by
 intro l
 have : ∀ l : List α, P l.reverse := by
  intro l
  induction l with
  | nil => exact h0
  | cons x l ih => rw [List.reverse_cons]; exact h1 _ _ ih
 have h := this l.reverse
 rwa [List.reverse_reverse] at h
theorem counts_len (L : List Tri) : (counts L).length ≤ L.length := by
 induction L using snoc_ind with
 | h0 => exact Nat.le_refl _
 | h1 l x ih =>
  rw [counts_snoc];have := putI_len (counts l) x.2.2 (((counts l).lookup x.2.2).getD 0 + x.2.1 - x.1);unfold addC;rw [List.length_append, List.length_singleton];exact ln2 91753857601 1409681 91753859201 [_,_,_] [] ih this
set_option tactic.hygienic true in
theorem counts_has (L : List Tri) : ∀ x ∈ L, ((counts L).lookup x.2.2).isSome = true := by
 induction L using snoc_ind with
 | h0 => intro x hx; cases hx
 | h1 l x ih =>
  intro y hy;rw [counts_snoc];unfold addC;rw [putI_lookup]
  split
  ·rfl
  ·rename_i hne;rcases List.mem_append.mp hy with hy | hy
   ·exact ih y hy
   ·rw [List.mem_singleton] at hy; subst hy; exact absurd rfl hne
set_option tactic.hygienic true in
theorem lookup_mem {es : List (Str × Int)} {k : Str} {v : Int} (h : es.lookup k = some v) : (k, v) ∈ es := by
 induction es with
 | nil => cases h
 | cons e es ih =>
  obtain ⟨k', v'⟩ := e;unfold List.lookup at h
  split at h
  ·rename_i hk;rw [beq_iff_eq] at hk;subst hk;cases h;exact List.mem_cons_self
  ·exact List.mem_cons_of_mem _ (ih h)
theorem counts_mem (L : List Tri) {N : Nat} (h : ∀ x ∈ L, x.1 < x.2.1 ∧ x.2.1 ≤ N ∧ x.2.2 ∈ wordsL) : ∀ p ∈ counts L, p.1 ∈ wordsL ∧ 0 ≤ p.2 ∧ p.2 ≤ N * L.length := by
 induction L using snoc_ind with
 | h0 => intro x hx; cases hx
 | h1 l x ih =>
  have ih := ih fun y hy => h y (List.mem_append_left _ hy);have hx := h x (List.mem_append_right _ (List.mem_singleton_self _))
  have hN : ((N : Int) * ((l ++ [x]).length : Nat)) = N * (l.length : Int) + N := by
   rw [List.length_append, List.length_singleton]; push_cast; rw [Int.mul_add, Int.mul_one]
  intro p hp;rw [counts_snoc] at hp;rw [hN];rcases putI_mem hp with rfl | hp
  ·refine ⟨hx.2.2, ?_⟩;dsimp only
   cases hl : (counts l).lookup x.2.2 with
   | none =>
    have h0 : (0 : Int) ≤ N * (l.length : Int) := by exact_mod_cast Nat.zero_le _
    simp only [Option.getD_none];exact ⟨ln1 11088438308864896561 1472041 [_,_] [] hx.1, ln2 17724732456801943040561 1411201 67072561 [_,_,_] [_] hx.2.1 h0⟩
   | some v =>
    have := ih _ (lookup_mem hl);dsimp only at this;simp only [Option.getD_some];exact ⟨ln2 277210957722112561 1472041 67072561 [_,_] [_] hx.1 this.2.1, ln2 443118317973648576321 1411201 1678721 [_,_,_] [_,_] hx.2.1 this.2.2⟩
  ·have := ih p hp;exact in03 this.1 (by exact ln1 67072561 67072561 [] [_] this.2.1) (by exact ln1 108183054721 1678721 [_] [_,_] this.2.2)
abbrev po_script_counts (ts : List Row) (H : AH) : D → AH → Prop := fun d H' => ∃ a, d = .ref a ∧ Keep H H' ∧ H'[a]? = some (.dict (intD (counts (tri ts)))) ∧ H.length ≤ a
noncomputable def frWY0 (x0 x1 : Mine.D) : Loc := [("text", some x0), ("data", some x1), ("found", none), ("start", none), ("end", none), ("name", none)]
noncomputable def frWY1 (x0 x1 x2 : Mine.D) : Loc := [("text", some x0), ("data", some x1), ("found", some x2), ("start", none), ("end", none), ("name", none)]
noncomputable def frWY2 (x0 x1 x2 : Mine.D) (x3 x4 x5 : Option Mine.D) : Loc := [("text", some x0), ("data", some x1), ("found", some x2), ("start", x3), ("end", x4), ("name", x5)]
noncomputable abbrev ivWY0 (kd t : Nat) (ts : List Row) (H : AH) (f a : Nat) : List Mine.D → Loc → AH → Prop := fun zr0 zl zh => ∃ zv0 zv1 zv2, zl = (frWY2 (Mine.D.ref t) (Mine.D.ref kd) (Mine.D.ref f) zv0 zv1 zv2 : Loc) ∧ (fun _ _ _ rr J => Keep H J ∧ J[a]? = some (.list ((tri ts).map triD)) ∧ ∃ pre rs, pre ++ rs = tri ts ∧ rr = rs.map triD ∧ J[f]? = some (.dict (intD (counts pre)))) zv0 zv1 zv2 zr0 zh
noncomputable def frWY3 (x0 x1 x2 x3 x4 x5 : Mine.D) : Loc := [("text", some x0), ("data", some x1), ("found", some x2), ("start", some x3), ("end", some x4), ("name", some x5)]
theorem script_counts {m kd t : Nat} {ts : List Row} {H : AH} (hm : 160 ≤ m) (K : Kept H kd ts) (hts : ∀ r ∈ ts, r ∈ rowsL) (ht : H[t]? = some (.list (textD ts))) (hl : ts.length ≤ 50) :
  Rx ((ev ge m).cl (.fn 124) [.ref t, .ref kd] H) (po_script_counts ts H) := by
 obtain ⟨n, rfl⟩ : ∃ n, m = n + 160 := ⟨m - 160, by exact Nat.le_antisymm (ln1 146801050433601 163905546260841 [_,_] [] (Nat.sub_add_cancel (ln1 90112256521 90112256521 [_] [] hm))) (ln1 144408586260801 157515786260801 [_,_] [] (Nat.sub_add_cancel (ln1 90112256521 90112256521 [_] [] hm)))⟩;refine zcF (frWY0 (Mine.D.ref t) (Mine.D.ref kd)) ?_;refine zsK ?_;refine zsN ?_;refine zD ?_; simp only [List.zip_cons_cons, List.zip_nil_left, List.zip_nil_right];refine p_nil ?_;intro f H1 k1 hf lf;refine zsL (frWY1 (Mine.D.ref t) (Mine.D.ref kd) (Mine.D.ref f)) ?_;refine zsK ?_;refine zsF ?_;refine zK (.fn 105) ?_;refine zlC ?_;refine zN (.ref t) ?_;refine zlC ?_;refine zN (.ref kd) ?_;refine l_nil ?_;refine (runs_spec (by exact ln0 601318238479372288224521 [_] []) (K.keep k1) hts (k1 _ _ ht) hl).mono ?_;intro _ H2 zi1;refine el14 zi1 fun a zr2 k2 ha la => ?_;clear zi1;subst zr2;have htl := tri_len hts;rw [tile_tri] at ha
 have hfa : f ≠ a := by have := lt_of_at hf; exact fun hq => ln3 1200 1601601 1409681 1475201 [_,_,_] [] hq la this
 refine in23 _ _ (src_ref ha) (by refine lm ?_; exact ln2 90374164801 90115220841 1409601 [_,_] [] hl htl) ?_;have k12 := k1.trans k2;have hf2 := k2 _ _ hf;refine zlp (ivWY0 kd t ts H f a) ?_ ?_ ?_
 ·intro d rr _ J zi1;refine el34 zi1 fun v1a v2a v3a zr2 k ha zq3 => ?_;clear zi1;subst zr2;refine el23 zq3 fun pre rs hp hrr hf => ?_;clear zq3;refine el23 (map_cons_inv hrr) fun x rs zr1 zr2 zr3 => ?_;subst zr1;subst zr2;subst zr3
  have hpl : pre.length ≤ 50 := by have := congrArg List.length hp; simp at this; exact ln3 90115220801 90115220841 1409681 157681257860801 [_,_,_,_] [] hl htl this
  have hcl := counts_len pre;refine l_step ?_;refine zbT (frWY3 (Mine.D.ref t) (Mine.D.ref kd) (Mine.D.ref f) (Mine.D.int (↑x.fst : Int)) (Mine.D.int (↑x.snd.fst : Int)) (Mine.D.str x.snd.snd)) ?_;refine zsK ?_;refine zsS ?_;refine zP ?_;refine zP ?_;refine zM ?_;refine zN (.ref f) ?_;refine zmO hf ?_;refine zlC ?_;refine zN (.str x.snd.snd) ?_;refine zlC ?_;refine zI ?_;refine l_nil ?_;refine m_get2 hf ?_;rw [lookup_intD]
  have e0 : ((List.lookup x.2.2 (counts pre)).map D.int).getD (.int 0) = .int (((counts pre).lookup x.2.2).getD 0) := by
   cases (counts pre).lookup x.2.2 <;> rfl
  rw [e0];refine zN (.int (↑x.snd.fst : Int)) ?_;refine b_add ?_;refine zN (.int (↑x.fst : Int)) ?_;refine b_sub ?_;refine zN (.ref f) ?_;refine zN (.str x.snd.snd) ?_;refine u_dict hf (by refine lm ?_; exact ln2 90374164801 90115220841 1409601 [_,_] [] hpl hcl) ?_;rw [putE_intD];refine s_nil ?_;refine ⟨still_ref (at_set_ne hfa ha), _, _, _, rfl, k.set lf, at_set_ne hfa ha, pre ++ [x], rs, by simpa using hp, rfl, ?_⟩;rw [at_set hf, counts_snoc]
  rfl
 ·intro _ J zi1;refine el34 zi1 fun v1b v2b v3b zr2 k ha zq3 => ?_;clear zi1;subst zr2;refine el23 zq3 fun pre rs hp hrr hf => ?_;clear zq3;rw [map_nil_inv hrr, List.append_nil] at hp;subst hp;refine zsK ?_;refine zsR ?_;refine zN (.ref f) ?_;exact in14 f rfl k hf lf
 ·exact in34 _ _ _ rfl k12 ha ⟨[], tri ts, rfl, rfl, hf2⟩
noncomputable abbrev pairD (x : Tri) : D := .tup [.int x.1, .int x.2.1]
abbrev po_script_spans (w : Str) (ts : List Row) (H : AH) : D → AH → Prop := fun d H' => ∃ a, d = .ref a ∧ Keep H H' ∧ H'[a]? = some (.list (((tri ts).filter fun x => x.2.2 == w).map pairD))
noncomputable def frWY4 (x0 x1 x2 : Mine.D) : Loc := [("text", some x0), ("data", some x1), ("name", some x2)]
noncomputable def frWY5 (x0 x1 x2 : Mine.D) : Loc := [(".0", none), ("start", none), ("end", none), ("told", none), ("text", some x0), ("data", some x1), ("name", some x2)]
noncomputable def frWY6 (x0 x1 x2 : Option Mine.D) (x3 x4 x5 : Mine.D) : Loc := [(".0", none), ("start", x0), ("end", x1), ("told", x2), ("text", some x3), ("data", some x4), ("name", some x5)]
noncomputable abbrev ivWY1 (kd t : Nat) (w : Str) (ts : List Row) (H2 : AH) : List Mine.D → List Mine.D → Loc → AH → Prop := fun zr0 zr1 zl zh => ∃ zv0 zv1 zv2, zl = (frWY6 zv0 zv1 zv2 (Mine.D.ref t) (Mine.D.ref kd) (Mine.D.str w) : Loc) ∧ (fun _ _ _ rr acc J => J = H2 ∧ ∃ pre rs, pre ++ rs = tri ts ∧ rr = rs.map triD ∧ acc = (pre.filter fun x => x.2.2 == w).map pairD) zv0 zv1 zv2 zr0 zr1 zh
noncomputable def frWY7 (x0 x1 x2 x3 x4 x5 : Mine.D) : Loc := [(".0", none), ("start", some x0), ("end", some x1), ("told", some x2), ("text", some x3), ("data", some x4), ("name", some x5)]
theorem script_spans {m kd t : Nat} {w : Str} {ts : List Row} {H : AH} (hm : 160 ≤ m) (K : Kept H kd ts) (hts : ∀ r ∈ ts, r ∈ rowsL) (ht : H[t]? = some (.list (textD ts))) (hl : ts.length ≤ 50) :
  Rx ((ev ge m).cl (.fn 117) [.ref t, .ref kd, .str w] H) (po_script_spans w ts H) := by
 obtain ⟨n, rfl⟩ : ∃ n, m = n + 160 := ⟨m - 160, by exact Nat.le_antisymm (ln1 146801050433601 163905546260841 [_,_] [] (Nat.sub_add_cancel (ln1 90112256521 90112256521 [_] [] hm))) (ln1 144408586260801 157515786260801 [_,_] [] (Nat.sub_add_cancel (ln1 90112256521 90112256521 [_] [] hm)))⟩;refine zcF (frWY4 (Mine.D.ref t) (Mine.D.ref kd) (Mine.D.str w)) ?_;refine zsK ?_;refine zsR ?_;refine zY (frWY5 (Mine.D.ref t) (Mine.D.ref kd) (Mine.D.str w)) ?_;refine zK (.fn 105) ?_;refine zlC ?_;refine zN (.ref t) ?_;refine zlC ?_;refine zN (.ref kd) ?_;refine l_nil ?_;refine (runs_spec (by exact ln0 601318238479208448224521 [_] []) K hts ht hl).mono ?_;intro _ H2 zi1;refine el14 zi1 fun a zr2 k2 ha la => ?_;clear zi1;subst zr2;have htl := tri_len hts;rw [tile_tri] at ha;refine in23 _ _ (src_ref ha) (by refine lm ?_; exact ln2 90374164801 90115220841 1409601 [_,_] [] hl htl) ?_;refine zcp (ivWY1 kd t w ts H2) ?_ ?_ ?_
 ·intro d rr acc _ J zi1;refine el33 zi1 fun v1c v2c v3c zr2 zr3 zq4 => ?_;clear zi1;subst zr2;subst zr3;refine el23 zq4 fun pre rs hp hrr zr5 => ?_;clear zq4;subst zr5;refine el23 (map_cons_inv hrr) fun x rs zr1 zr2 zr3 => ?_;subst zr1;subst zr2;subst zr3;refine zc1 ?_;refine zbT (frWY7 (Mine.D.int (↑x.fst : Int)) (Mine.D.int (↑x.snd.fst : Int)) (Mine.D.str x.snd.snd) (Mine.D.ref t) (Mine.D.ref kd) (Mine.D.str w)) ?_;refine ztC ?_;refine zN (.str x.snd.snd) ?_;refine zN (.str w) ?_;refine k_eq (eq_strs _ _ _) ?_
  cases hx : (x.2.2 == w) with
  | true =>
   refine ite_yes ?_;refine zT ?_;refine zlC ?_;refine zN (.int (↑x.fst : Int)) ?_;refine zlC ?_;refine zN (.int (↑x.snd.fst : Int)) ?_;refine l_nil ?_;refine ⟨still_ref ha, _, _, _, rfl, rfl, pre ++ [x], rs, by simpa using hp, rfl, ?_⟩;dsimp only;rw [filter_snoc, if_pos hx, List.map_append]
   rfl
  | false =>
   refine ite_no ?_;refine ⟨still_ref ha, _, _, _, rfl, rfl, pre ++ [x], rs, by simpa using hp, rfl, ?_⟩;dsimp only;rw [filter_snoc, if_neg (by simp [hx])]
 ·intro ys _ J zi1;refine el33 zi1 fun v1d v2d v3d zr2 zr3 zq4 => ?_;clear zi1;subst zr2;subst zr3;refine el23 zq4 fun pre rs hp hrr hy => ?_;clear zq4;rw [map_nil_inv hrr, List.append_nil] at hp;subst hp;rw [List.nil_append] at hy;subst hy;have hfl := List.length_filter_le (fun x : Tri => x.2.2 == w) (tri ts);refine ⟨by refine lm ?_; exact ln3 90374164801 90115220841 1409681 1411201 [_,_,_] [] hl htl hfl, ?_⟩;intro b J1 kj hb lb;exact in13 b rfl (k2.trans kj) hb
 ·exact in33 _ _ _ rfl rfl ⟨[], tri ts, rfl, rfl, rfl⟩
end Mine
end

-- WZ
section
namespace Mine
theorem lt_asym : ∀ a ∈ wordsL, ∀ b ∈ wordsL, ltS a b = true → ltS b a = false := by decide +kernel
theorem lt_anti : ∀ a ∈ wordsL, ∀ b ∈ wordsL, ltS a b = false → ltS b a = false → a = b := by decide +kernel
theorem lt_trans' : ∀ a ∈ wordsL, ∀ b ∈ wordsL, ∀ c ∈ wordsL, ltS b a = false → ltS c b = false → ltS c a = false := by decide +kernel
theorem insS_permW (a : Str) (l : List Str) : (insS a l).Perm (a :: l) := by
 induction l with
 | nil => exact .refl _
 | cons b l ih =>
  unfold insS
  split
  ·exact (List.Perm.cons b ih).trans (List.Perm.swap a b l)
  ·exact .refl _
theorem srt_permW (l : List Str) : (srt l).Perm l := by
 induction l with
 | nil => exact .refl _
 | cons a l ih => unfold srt; exact (insS_permW a _).trans (List.Perm.cons a ih)
noncomputable abbrev Srt (l : List Str) : Prop := l.Pairwise fun x y => ltS y x = false
set_option tactic.hygienic true in
theorem insS_srt {a : Str} (ha : a ∈ wordsL) : ∀ {l : List Str}, (∀ x ∈ l, x ∈ wordsL) → Srt l → Srt (insS a l)
 | [], _, _ => List.pairwise_singleton _ _
 | b :: l, hw, h => by
  have hb := hw b List.mem_cons_self;have h' := List.pairwise_cons.mp h;unfold insS
  split
  ·rename_i hc;refine List.pairwise_cons.mpr ⟨?_, insS_srt ha (fun x hx => hw x (List.mem_cons_of_mem _ hx)) h'.2⟩;intro y hy;rcases List.mem_cons.mp ((insS_permW a l).mem_iff.mp hy) with rfl | hy
   ·exact lt_asym b hb y ha hc
   ·exact h'.1 y hy
  ·rename_i hc
   have hc : ltS b a = false := by simpa using hc
   refine List.pairwise_cons.mpr ⟨?_, h⟩;intro y hy;rcases List.mem_cons.mp hy with rfl | hy
   ·exact hc
   ·exact lt_trans' a ha b hb y (hw y (List.mem_cons_of_mem _ hy)) hc (h'.1 y hy)
theorem srt_srt : ∀ {l : List Str}, (∀ x ∈ l, x ∈ wordsL) → Srt (srt l)
 | [], _ => .nil
 | a :: l, h => by
  unfold srt;refine insS_srt (h a List.mem_cons_self) (fun x hx => ?_) (srt_srt fun x hx => h x (List.mem_cons_of_mem _ hx));exact h x (List.mem_cons_of_mem _ ((srt_permW l).mem_iff.mp hx))
theorem srt_uniqW : ∀ {l1 l2 : List Str}, (∀ x ∈ l1, x ∈ wordsL) → Srt l1 → Srt l2 → l1.Nodup → l2.Nodup → (∀ x, x ∈ l1 ↔ x ∈ l2) → l1 = l2
 | [], [], _, _, _, _, _, _ => rfl
 | [], b :: l2, _, _, _, _, _, h => absurd ((h b).mpr List.mem_cons_self) (List.not_mem_nil)
 | a :: l1, [], _, _, _, _, _, h => absurd ((h a).mp List.mem_cons_self) (List.not_mem_nil)
 | a :: l1, b :: l2, hw, s1, s2, n1, n2, h => by
  have s1' := List.pairwise_cons.mp s1;have s2' := List.pairwise_cons.mp s2;have n1' := List.nodup_cons.mp n1;have n2' := List.nodup_cons.mp n2
  have hab : a = b := by
   rcases List.mem_cons.mp ((h a).mp List.mem_cons_self) with e | ha
   ·exact e
   ·rcases List.mem_cons.mp ((h b).mpr List.mem_cons_self) with e | hb
    ·exact e.symm
    ·exact lt_anti a (hw a List.mem_cons_self) b (hw b (List.mem_cons_of_mem _ hb)) (s2'.1 a ha) (s1'.1 b hb)
  subst hab;rw [srt_uniqW (l1 := l1) (l2 := l2) (fun x hx => hw x (List.mem_cons_of_mem _ hx)) s1'.2 s2'.2 n1'.2 n2'.2];intro x;constructor
  ·intro hx;rcases List.mem_cons.mp ((h x).mp (List.mem_cons_of_mem _ hx)) with rfl | hx2
   ·exact absurd hx n1'.1
   ·exact hx2
  ·intro hx;rcases List.mem_cons.mp ((h x).mpr (List.mem_cons_of_mem _ hx)) with rfl | hx2
   ·exact absurd hx n2'.1
   ·exact hx2
noncomputable def uqStep (p : Str → Bool) (acc : List Str) (w : Str) : List Str := if p w = true ∧ acc.any (· == w) = false then acc ++ [w] else acc
noncomputable def uq (p : Str → Bool) (l : List Str) : List Str := l.foldl (uqStep p) []
theorem uq_snoc (p : Str → Bool) (l : List Str) (w : Str) : uq p (l ++ [w]) = uqStep p (uq p l) w := by unfold uq; rw [List.foldl_append]; rfl
theorem any_eq_mem (l : List Str) (w : Str) : l.any (· == w) = false ↔ w ∉ l := by
 rw [Bool.eq_false_iff, Ne, List.any_eq_true];constructor
 ·intro h hw; exact h ⟨w, hw, by simp⟩
 ·intro h zi1; refine el12 zi1 fun x hx e => ?_; clear zi1; rw [beq_iff_eq] at e; subst e; exact h hx
set_option tactic.hygienic true in
theorem uq_props (p : Str → Bool) (l : List Str) : (uq p l).Nodup ∧ (uq p l).Sublist l ∧ ∀ w, w ∈ uq p l ↔ w ∈ l ∧ p w = true := by
 induction l using snoc_ind with
 | h0 => exact ⟨.nil, .refl _, fun w => by simp [uq]⟩
 | h1 l x ih =>
  refine el03 ih fun a b c => ?_;clear ih;rw [uq_snoc];unfold uqStep
  split
  ·rename_i h;have hx := (any_eq_mem _ _).mp h.2;refine in03 ?_ (b.append (.refl _)) ?_
   ·rw [List.nodup_append];refine in03 a (by simp) ?_;intro y hy z hz e;rw [List.mem_singleton] at hz;subst hz e;exact hx hy
   ·intro w;rw [List.mem_append, List.mem_append, c w, List.mem_singleton];constructor
    ·rintro (⟨h1, h2⟩ | rfl)
     ·exact ⟨.inl h1, h2⟩
     ·exact ⟨.inr rfl, h.1⟩
    ·rintro ⟨h1 | rfl, h2⟩
     ·exact .inl ⟨h1, h2⟩
     ·exact .inr rfl
  ·rename_i h;refine in03 a (b.trans (List.sublist_append_left _ _)) ?_;intro w;rw [List.mem_append, c w, List.mem_singleton];constructor
   ·intro zi1; refine el02 zi1 fun h1 h2 => ?_; clear zi1; exact ⟨.inl h1, h2⟩
   ·rintro ⟨h1 | rfl, h2⟩
    ·exact ⟨h1, h2⟩
    ·by_cases hw : w ∈ uq p l
     ·exact (c w).mp hw
     ·exact absurd ⟨h2, (any_eq_mem _ _).mpr hw⟩ h
theorem uq_srt (p : Str → Bool) {l : List Str} (hl : ∀ x ∈ l, x ∈ wordsL) : srt (uq p l) = uq p (srt l) := by
 refine el03 (uq_props p l) fun a b c => ?_;refine el03 (uq_props p (srt l)) fun a' b' c' => ?_;have hu : ∀ x ∈ uq p l, x ∈ wordsL := fun x hx => hl x ((c x).mp hx).1;refine srt_uniqW ?_ (srt_srt hu) ?_ ((srt_permW _).nodup_iff.mpr a) a' ?_
 ·intro x hx; exact hu x ((srt_permW _).mem_iff.mp hx)
 ·exact List.Pairwise.sublist b' (srt_srt hl)
 ·intro x;rw [(srt_permW _).mem_iff, c x, c' x, (srt_permW _).mem_iff]
theorem uq_congr {p q : Str → Bool} {l : List Str} (h : ∀ x ∈ l, p x = q x) : uq p l = uq q l := by
 induction l using snoc_ind with
 | h0 => rfl
 | h1 l x ih =>
  rw [uq_snoc, uq_snoc, ih fun y hy => h y (List.mem_append_left _ hy)];unfold uqStep;rw [h x (List.mem_append_right _ (List.mem_singleton_self _))]
noncomputable def plain1 (w : Str) : Bool := !(w == "Zyyy") && !((["Zinh", "Qaai"] : List Str).any (· == w))
noncomputable def plain2 (w : Str) : Bool := !((["Zyyy", "Zinh"] : List Str).any (· == w))
theorem plain_eq : ∀ w ∈ wordsL, plain1 w = plain2 w := by decide +kernel
theorem own_mem : ∀ r ∈ rowsL, own r ∈ wordsL := by decide +kernel
theorem owns_eq {ts : List Row} (hts : ∀ r ∈ ts, r ∈ rowsL) : srt (uq plain1 (ts.map own)) = uq plain2 (srt (ts.map own)) := by
 have hw : ∀ x ∈ ts.map own, x ∈ wordsL := by
  intro x hx;refine el12 (List.mem_map.mp hx) fun r hr zr1 => ?_;subst zr1;exact own_mem r (hts r hr)
 rw [uq_srt _ hw];exact uq_congr fun x hx => plain_eq x (hw x ((srt_permW _).mem_iff.mp hx))
theorem uq_len (p : Str → Bool) (l : List Str) : (uq p l).length ≤ l.length := (uq_props p l).2.1.length_le
abbrev po_own_scripts (ts : List Row) (H : AH) : D → AH → Prop := fun d H' => ∃ a, d = .ref a ∧ Keep H H' ∧ H'[a]? = some (.list ((srt (uq plain1 (ts.map own))).map .str))
noncomputable def frWZ0 (x0 x1 : D) : Loc := [("text", some x0), ("data", some x1), ("found", none), ("code", none), ("name", none)]
noncomputable def frWZ1 (x0 x1 x2 : D) : Loc := [("text", some x0), ("data", some x1), ("found", some x2), ("code", none), ("name", none)]
noncomputable def frWZ2 (x0 x1 x2 : D) (x3 x4 : Option D) : Loc := [("text", some x0), ("data", some x1), ("found", some x2), ("code", x3), ("name", x4)]
noncomputable abbrev ivWZ0 (kd t : Nat) (ts : List Row) (H : AH) (f : Nat) : List D → Loc → AH → Prop := fun zr0 zl zh => ∃ zv0 zv1, zl = (frWZ2 (D.ref t) (D.ref kd) (D.ref f) zv0 zv1 : Loc) ∧ (fun _ _ rr J => Keep H J ∧ ∃ pre rs, pre ++ rs = ts ∧ rr = textD rs ∧ J[f]? = some (.list ((uq plain1 (pre.map own)).map .str))) zv0 zv1 zr0 zh
noncomputable def frWZ3 (x0 x1 x2 x3 : D) (x4 : Option D) : Loc := [("text", some x0), ("data", some x1), ("found", some x2), ("code", some x3), ("name", x4)]
noncomputable def frWZ4 (x0 x1 x2 x3 x4 : D) : Loc := [("text", some x0), ("data", some x1), ("found", some x2), ("code", some x3), ("name", some x4)]
theorem own_scripts {m kd t : Nat} {ts : List Row} {H : AH} (hm : 80 ≤ m) (K : Kept H kd ts) (hts : ∀ r ∈ ts, r ∈ rowsL) (ht : H[t]? = some (.list (textD ts))) (hl : ts.length ≤ 50) :
  Rx ((ev ge m).cl (.fn 55) [.ref t, .ref kd] H) (po_own_scripts ts H) := by
 obtain ⟨n, rfl⟩ : ∃ n, m = n + 80 := ⟨m - 80, by exact Nat.le_antisymm (ln1 146800845633601 163905541140841 [_,_] [] (Nat.sub_add_cancel (ln1 90112128521 90112128521 [_] [] hm))) (ln1 144408581140801 157515781140801 [_,_] [] (Nat.sub_add_cancel (ln1 90112128521 90112128521 [_] [] hm)))⟩;refine zcF (frWZ0 (D.ref t) (D.ref kd)) ?_;refine zsK ?_;refine zsN ?_;refine zL ?_;refine l_nil ?_;refine ⟨by simp [maxLen], ?_⟩;intro f H1 k1 hf lf;refine zsL (frWZ1 (D.ref t) (D.ref kd) (D.ref f)) ?_;refine zsK ?_;refine zsF ?_;refine zN (.ref t) ?_;refine in23 _ _ (src_ref (k1 _ _ ht)) (by simp [maxLen]; exact ln1 90374164801 90115220801 [_] [] hl) ?_;refine zlp (ivWZ0 kd t ts H f) ?_ ?_ ?_
 ·intro d rr _ J zi1;refine el23 zi1 fun v1a v2a zr2 k zq3 => ?_;clear zi1;subst zr2;refine el23 zq3 fun pre rs hp hrr hf => ?_;clear zq3;refine el23 (text_cons hrr) fun x rs zr1 zr2 zr3 => ?_;subst zr1;subst zr2;subst zr3
  have hxt : x ∈ ts := by rw [← hp]; exact List.mem_append_right _ List.mem_cons_self
  have K1 := K.keep k;refine el12 (K1.meth) fun jd i1 m1 => ?_;have hul := uq_len plain1 (pre.map own);rw [List.length_map] at hul
  have hpl : pre.length ≤ 50 := by have := congrArg List.length hp; simp at this; exact ln2 90115220801 90115220841 157517417859201 [_,_,_] [] hl this
  refine l_step ?_;refine zbT (frWZ3 (D.ref t) (D.ref kd) (D.ref f) (D.int x.fst) v2a) ?_;refine zsK ?_;refine zsN ?_;refine zM ?_;refine zN (.ref kd) ?_;refine in12 _ rfl (.inr ⟨_, _, 229, i1, m1, ?_⟩);refine zlC ?_;refine zS ?_;refine zlC ?_;refine zN (.int x.fst) ?_;refine l_nil ?_;refine Rx.same (kept_sc (by exact fu (by decide)) K1 (hts x hxt) hxt) ?_;refine zsL (frWZ4 (D.ref t) (D.ref kd) (D.ref f) (D.int x.fst) (D.str (own x))) ?_;refine zsK ?_;refine zsI ?_;refine t_bool ?_;refine ztA ?_;refine ztC ?_;refine zN (.str (own x)) ?_;refine zN (.str (Str.ofString "Zyyy")) ?_;refine k_ne (eq_strs _ _ _) ?_
  have hno : (plain1 (own x) = true ∧ (uq plain1 (pre.map own)).any (· == own x) = false → False) → uq plain1 ((pre ++ [x]).map own) = uq plain1 (pre.map own) := by
   intro h;rw [List.map_append, List.map_singleton, uq_snoc];unfold uqStep;exact if_neg h
  cases h1 : (own x == "Zyyy") with
  | true =>
   refine ite_no ?_;refine ite_no ?_;refine s_nil ?_;refine s_nil ?_;refine ⟨still_ref (k _ _ ht), _, _, rfl, k, pre ++ [x], rs, by simpa using hp, rfl, ?_⟩;rw [hno (by unfold plain1; rw [h1]; simp)];exact hf
  | false =>
   refine ite_yes ?_;refine ztA ?_;refine ztC ?_;refine zN (.str (own x)) ?_;refine zN (valAt 3) ?_;rw [inh_val];refine k_nins _ ?_
   cases h2 : ((["Zinh", "Qaai"] : List Str).any (· == own x)) with
   | true =>
    refine ite_no ?_;refine ite_no ?_;refine s_nil ?_;refine s_nil ?_;refine ⟨still_ref (k _ _ ht), _, _, rfl, k, pre ++ [x], rs, by simpa using hp, rfl, ?_⟩;rw [hno (by unfold plain1; rw [h1, h2]; simp)];exact hf
   | false =>
    refine ite_yes ?_;refine ztA ?_;refine ztC ?_;refine zN (.str (own x)) ?_;refine zN (.ref f) ?_;refine k_ninl hf ?_
    cases h3 : (uq plain1 (pre.map own)).any (· == own x) with
    | true =>
     refine ite_no ?_;refine ite_no ?_;refine s_nil ?_;refine s_nil ?_;refine ⟨still_ref (k _ _ ht), _, _, rfl, k, pre ++ [x], rs, by simpa using hp, rfl, ?_⟩;rw [hno (by rw [h3]; simp)];exact hf
    | false =>
     refine ite_yes ?_;refine a_nil_and ?_;refine ite_yes ?_;refine zsK ?_;refine zsX ?_;refine zM ?_;refine zN (.ref f) ?_;refine zmO hf ?_;refine zlC ?_;refine zN (.str (own x)) ?_;refine l_nil ?_;refine m_append hf (by refine lm ?_; exact ln2 90374164801 1409601 90115220841 [_,_] [] hul hpl) ?_;refine s_nil ?_;refine s_nil ?_
     have hft : f ≠ t := by have := lt_of_at ht; exact fun hq => ln3 1200 1537601 1408081 1475241 [_,_,_] [] hq lf this
     refine ⟨still_ref (at_set_ne hft (k _ _ ht)), _, _, rfl, k.set lf, pre ++ [x], rs, by simpa using hp, rfl, ?_⟩;rw [at_set hf, List.map_append, List.map_singleton, uq_snoc];unfold uqStep;rw [if_pos ⟨by unfold plain1; rw [h1, h2]; rfl, h3⟩, List.map_append]
     rfl
 ·intro _ J zi1;refine el23 zi1 fun v1b v2b zr2 k zq3 => ?_;clear zi1;subst zr2;refine el23 zq3 fun pre rs hp hrr hf => ?_;clear zq3;rw [text_nil hrr, List.append_nil] at hp;subst hp;have hul := uq_len plain1 (pre.map own);rw [List.length_map] at hul;refine zsK ?_;refine zsR ?_;refine zK (.bi Bi.sorted) ?_;refine zlC ?_;refine zN (.ref f) ?_;refine l_nil ?_;refine c_bi ?_;refine w_sorted hf (by exact ln2 94212116801 90115220841 1409601 [_,_] [] hl hul) ?_;intro b J1 kj hb lb;exact in13 b rfl (k.trans kj) hb
 ·exact in23 _ _ rfl k1 ⟨[], ts, rfl, rfl, hf⟩
end Mine
end

-- XA
section
namespace Mine
noncomputable def gC (es : List (Str × Int)) (w : Str) : Int := (es.lookup w).getD 0
noncomputable def mainStep (es : List (Str × Int)) (b : Str) (w : Str) : Str := if w ≠ "Zyyy" ∧ (b = "Zyyy" ∨ gC es b < gC es w) then w else b
noncomputable def mainOf (es : List (Str × Int)) (ws : List Str) : Str := ws.foldl (mainStep es) "Zyyy"
theorem mainOf_snoc (es : List (Str × Int)) (ws : List Str) (w : Str) : mainOf es (ws ++ [w]) = mainStep es (mainOf es ws) w := by unfold mainOf; rw [List.foldl_append]; rfl
theorem mainOf_mem (es : List (Str × Int)) (ws : List Str) : mainOf es ws = "Zyyy" ∨ mainOf es ws ∈ ws := by
 induction ws using snoc_ind with
 | h0 => exact .inl rfl
 | h1 l w ih =>
  rw [mainOf_snoc];unfold mainStep
  split
  ·exact .inr (List.mem_append_right _ (List.mem_singleton_self _))
  ·rcases ih with h | h
   ·exact .inl h
   ·exact .inr (List.mem_append_left _ h)
noncomputable abbrev wordsOf (L : List Tri) : List Str := L.map (·.2.2)
theorem lookup_gC {es : List (Str × Int)} {w : Str} (h : (es.lookup w).isSome = true) : (intD es).lookup w = some (.int (gC es w)) := by
 rw [lookup_intD];unfold gC;refine el11 (Option.isSome_iff_exists.mp h) fun v hv => ?_;rw [hv]
 rfl
noncomputable def frXA0 (x0 x1 : D) : Loc := [("text", some x0), ("data", some x1), ("counts", none), ("best", none), ("start", none), ("end", none), ("name", none)]
noncomputable def frXA1 (x0 x1 x2 : D) : Loc := [("text", some x0), ("data", some x1), ("counts", some x2), ("best", some (.str ("Zyyy"))), ("start", none), ("end", none), ("name", none)]
noncomputable def frXA2 (x0 x1 x2 : D) (x3 x4 x5 x6 : Option D) : Loc := [("text", some x0), ("data", some x1), ("counts", some x2), ("best", x3), ("start", x4), ("end", x5), ("name", x6)]
noncomputable abbrev ivXA0 (kd t : Nat) (ts : List Row) (c : Nat) (H2 : AH) (es : List (Str × Int)) : List D → Loc → AH → Prop := fun zr0 zl zh => ∃ zv0 zv1 zv2 zv3, zl = (frXA2 (D.ref t) (D.ref kd) (D.ref c) zv0 zv1 zv2 zv3 : Loc) ∧ (fun b _ _ _ rr J => J = H2 ∧ ∃ pre rs, pre ++ rs = tri ts ∧ rr = rs.map triD ∧ b = some (.str (mainOf es (wordsOf pre)))) zv0 zv1 zv2 zv3 zr0 zh
noncomputable def frXA3 (x0 x1 x2 x3 x4 x5 x6 : D) : Loc := [("text", some x0), ("data", some x1), ("counts", some x2), ("best", some x3), ("start", some x4), ("end", some x5), ("name", some x6)]
theorem main_script {m kd t : Nat} {ts : List Row} {H : AH} (hm : 180 ≤ m) (K : Kept H kd ts) (hts : ∀ r ∈ ts, r ∈ rowsL) (ht : H[t]? = some (.list (textD ts))) (hl : ts.length ≤ 50) :
  Rx ((ev ge m).cl (.fn 131) [.ref t, .ref kd] H) fun d H' => d = .str (mainOf (counts (tri ts)) (wordsOf (tri ts))) ∧ Keep H H' := by
 obtain ⟨n, rfl⟩ : ∃ n, m = n + 180 := ⟨m - 180, by exact Nat.le_antisymm (ln1 146801101633601 163905547540841 [_,_] [] (Nat.sub_add_cancel (ln1 90112288521 90112288521 [_] [] hm))) (ln1 144408587540801 157515787540801 [_,_] [] (Nat.sub_add_cancel (ln1 90112288521 90112288521 [_] [] hm)))⟩;refine zcF (frXA0 (D.ref t) (D.ref kd)) ?_;refine zsK ?_;refine zsT ?_;refine zT ?_;refine zlC ?_;refine zK (.fn 124) ?_;refine zlC ?_;refine zN (.ref t) ?_;refine zlC ?_;refine zN (.ref kd) ?_;refine l_nil ?_;refine (script_counts (by exact ln0 601318238482485248256521 [_] []) K hts ht hl).mono ?_;intro _ H1 zi1;refine el14 zi1 fun c zr2 k1 hc lc => ?_;clear zi1;subst zr2;refine zlC ?_;refine zN (.str (Str.ofString "Zyyy")) ?_;refine l_nil ?_;refine zbT (frXA1 (D.ref t) (D.ref kd) (D.ref c)) ?_;refine zsK ?_;refine zsF ?_;refine zK (.fn 105) ?_;refine zlC ?_;refine zN (.ref t) ?_;refine zlC ?_;refine zN (.ref kd) ?_;refine l_nil ?_;refine (runs_spec (by exact ln0 601318238482649088224521 [_] []) (K.keep k1) hts (k1 _ _ ht) hl).mono ?_;intro _ H2 zi1;refine el14 zi1 fun a zr2 k2 ha la => ?_;clear zi1;subst zr2;have htl := tri_len hts;rw [tile_tri] at ha;have hc2 := k2 _ _ hc;have hhas := counts_has (tri ts);have k12 := k1.trans k2;generalize hes : counts (tri ts) = es at *;refine in23 _ _ (src_ref ha) (by refine lm ?_; exact ln2 90374164801 90115220841 1409601 [_,_] [] hl htl) ?_;refine zlp (ivXA0 kd t ts c H2 es) ?_ ?_ ?_
 ·intro d rr _ J zi1;refine el43 zi1 fun O v1a v2a v3a zr2 zr3 zq4 => ?_;clear zi1;subst zr2;subst zr3;refine el23 zq4 fun pre rs hp hrr zr5 => ?_;clear zq4;subst zr5;refine el23 (map_cons_inv hrr) fun x rs zr1 zr2 zr3 => ?_;subst zr1;subst zr2;subst zr3
  have hx : x ∈ tri ts := by rw [← hp]; exact List.mem_append_right _ List.mem_cons_self
  have fin : mainOf es (wordsOf (pre ++ [x])) = mainStep es (mainOf es (wordsOf pre)) x.2.2 := by
   unfold wordsOf; rw [List.map_append, List.map_singleton, mainOf_snoc]
  refine l_step ?_;refine zbT (frXA3 (D.ref t) (D.ref kd) (D.ref c) (D.str (mainOf es (wordsOf pre))) (D.int (↑x.fst : Int)) (D.int (↑x.snd.fst : Int)) (D.str x.snd.snd)) ?_;refine zsK ?_;refine zsI ?_;refine t_bool ?_;refine ztA ?_;refine ztC ?_;refine zN (.str x.snd.snd) ?_;refine zN (.str (Str.ofString "Zyyy")) ?_;refine k_ne (eq_strs _ _ _) ?_
  cases h1 : (x.2.2 == "Zyyy") with
  | true =>
   refine ite_no ?_;refine ite_no ?_;refine s_nil ?_;refine s_nil ?_;refine ⟨still_ref ha, _, _, _, _, rfl, rfl, pre ++ [x], rs, by simpa using hp, rfl, ?_⟩;rw [fin];unfold mainStep;rw [if_neg (by rintro ⟨h, -⟩; exact h (by simpa using h1))]
  | false =>
   have h1' : x.2.2 ≠ "Zyyy" := by simpa using h1
   refine ite_yes ?_;refine ztA ?_;refine t_bool ?_;refine ztO ?_;refine ztC ?_;refine zN (.str (mainOf es (wordsOf pre))) ?_;refine zN (.str (Str.ofString "Zyyy")) ?_;refine k_eq (eq_strs _ _ _) ?_
   cases h2 : (mainOf es (wordsOf pre) == "Zyyy") with
   | true =>
    refine ite_yes ?_;refine ite_yes ?_;refine a_nil_and ?_;refine ite_yes ?_;refine zsK ?_;refine zsN ?_;refine zN (.str x.snd.snd) ?_;refine zsL (frXA3 (D.ref t) (D.ref kd) (D.ref c) (D.str x.snd.snd) (D.int (↑x.fst : Int)) (D.int (↑x.snd.fst : Int)) (D.str x.snd.snd)) ?_;refine s_nil ?_;refine s_nil ?_;refine ⟨still_ref ha, _, _, _, _, rfl, rfl, pre ++ [x], rs, by simpa using hp, rfl, ?_⟩;rw [fin];unfold mainStep;rw [if_pos ⟨h1', .inl (by simpa using h2)⟩]
   | false =>
    have h2' : mainOf es (wordsOf pre) ≠ "Zyyy" := by simpa using h2
    have hb : ((es.lookup (mainOf es (wordsOf pre))).isSome) = true := by
     rcases mainOf_mem es (wordsOf pre) with h | h
     ·exact absurd h h2'
     ·refine el12 (List.mem_map.mp h) fun y hy e => ?_;rw [← e];exact hhas y (by rw [← hp]; exact List.mem_append_left _ hy)
    refine ite_no ?_;refine ztO ?_;refine ztC ?_;refine zX ?_;refine zN (.ref c) ?_;refine zN (.str x.snd.snd) ?_;refine g_dict hc2 (lookup_gC (hhas x hx)) ?_;refine zX ?_;refine zN (.ref c) ?_;refine zN (.str (mainOf es (wordsOf pre))) ?_;refine g_dict hc2 (lookup_gC hb) ?_;refine k_gt ?_
    by_cases h3 : gC es (mainOf es (wordsOf pre)) < gC es x.2.2
    ·refine ite_t (by rw [decide_eq_true_eq]; exact h3) ?_;refine ite_yes ?_;refine a_nil_and ?_;refine ite_yes ?_;refine zsK ?_;refine zsN ?_;refine zN (.str x.snd.snd) ?_;refine zsL (frXA3 (D.ref t) (D.ref kd) (D.ref c) (D.str x.snd.snd) (D.int (↑x.fst : Int)) (D.int (↑x.snd.fst : Int)) (D.str x.snd.snd)) ?_;refine s_nil ?_;refine s_nil ?_;refine ⟨still_ref ha, _, _, _, _, rfl, rfl, pre ++ [x], rs, by simpa using hp, rfl, ?_⟩;rw [fin];unfold mainStep;rw [if_pos ⟨h1', .inr h3⟩]
    ·refine ite_f (by rw [decide_eq_true_eq]; exact h3) ?_;refine a_nil_or ?_;refine ite_no ?_;refine ite_no ?_;refine s_nil ?_;refine s_nil ?_;refine ⟨still_ref ha, _, _, _, _, rfl, rfl, pre ++ [x], rs, by simpa using hp, rfl, ?_⟩;rw [fin];unfold mainStep;rw [if_neg (fun h => h.2.elim h2' h3)]
 ·intro _ J zi1;refine el43 zi1 fun O v1b v2b v3b zr2 zr3 zq4 => ?_;clear zi1;subst zr2;subst zr3;refine el23 zq4 fun pre rs hp hrr zr5 => ?_;clear zq4;subst zr5;rw [map_nil_inv hrr, List.append_nil] at hp;subst hp;refine zsK ?_;refine zsR ?_;refine zN (.str (mainOf es (wordsOf (Mine.tri ts)))) ?_;exact ⟨rfl, k12⟩
 ·exact in43 _ _ _ _ rfl rfl ⟨[], tri ts, rfl, rfl, rfl⟩
end Mine
end

-- XB
section
namespace Mine
theorem words_s : ∀ w ∈ wordsL, strS w = true := by decide +kernel
theorem w_items {H : AH} {i : Nat} {es : List (Str × Int)} {Q : D → AH → Prop} (h : H[i]? = some (.dict (intD es))) (hl : es.length < 64) (q : New H (.list (srtE (intD es))) Q) : Rx (bcall H .sorted [.items i]) Q := by
 refine in22 _ _ ?_ (New.at q);unfold bcall;dsimp only;rw [dictAt_of' h];dsimp only;rw [if_pos]
 ·rfl
 ·rw [Bool.and_eq_true, decide_eq_true_eq, List.length_map, List.all_eq_true];refine ⟨hl, ?_⟩;intro e he;refine el12 (List.mem_map.mp he) fun p hp zr1 => ?_;subst zr1
  rfl
theorem w_listd {H : AH} {i : Nat} {es : List (Str × D)} {Q : D → AH → Prop} (h : H[i]? = some (.dict es)) (hl : es.length ≤ maxLen) (q : New H (.list (es.map fun e => .str e.1)) Q) : Rx (bcall H .list [.ref i]) Q :=
 ⟨_, _, by unfold bcall newL alloc; dsimp only; rw [h]; dsimp only; rw [if_pos (by rw [List.length_map]; exact hl)], New.at q⟩
theorem w_listl {H : AH} {i : Nat} {ds : List D} {Q : D → AH → Prop} (h : H[i]? = some (.list ds)) (hl : ds.length ≤ maxLen) (q : New H (.list ds) Q) : Rx (bcall H .list [.ref i]) Q :=
 ⟨_, _, by unfold bcall newL alloc; dsimp only; rw [h]; dsimp only; rw [if_pos hl], New.at q⟩
theorem eq_nil_strs {H : AH} {c j : Nat} {cs : List Str} (hc : H[c]? = some (.list (cs.map .str))) (hj : H[j]? = some (.list [])) : isEq H (.ref c) (.ref j) = some (decide (cs = [])) := by
 have h1 : py H 3 (.ref c) = some (.list (cs.map .str)) := by
  unfold py; dsimp only; rw [listAt_of hc]; dsimp only; rw [py_strs]; rfl
 have h2 : py H 3 (.ref j) = some (.list []) := by
  unfold py; dsimp only; rw [listAt_of hj]; rfl
 unfold isEq;dsimp only;rw [h1, h2];dsimp only
 cases cs with
 | nil => simp [PyData.eqv, PyData.eqvAll]
 | cons x cs => simp [PyData.eqv, PyData.eqvAll]
theorem repr_counts {es : List (Str × Int)} (h : ∀ p ∈ es, p.1 ∈ wordsL ∧ 0 ≤ p.2 ∧ p.2 ≤ 100) (hl : es.length < 64) : ∃ x : Str, ∀ (H : AH) (i : Nat) (Q : D → AH → Prop), H[i]? = some (.list (srtE (intD es))) → Q (.txt x) H → Rx (bcall H .repr [.ref i]) Q := by
 refine repr_list (k := 18) ?_ (by rw [srtE_len, List.length_map]; exact ln1 9231763768886998401 94212116819 [_] [] hl);intro d hd;rcases srtE_mem hd with rfl | ⟨e, he, rfl⟩
 ·exact okf_none
 ·refine el12 (List.mem_map.mp he) fun p hp zr1 => ?_;subst zr1;have hpp := h p hp;refine okf_tup (k := 8) ?_ (by simp);intro d' hd';rcases List.mem_cons.mp hd' with rfl | hd'
  ·exact okf_str (words_s _ hpp.1)
  ·rw [List.mem_singleton.mp hd'];exact okf_int hpp.2.1 hpp.2.2
theorem repr_pairs {L : List Tri} {N : Nat} (h : ∀ x ∈ L, x.1 < x.2.1 ∧ x.2.1 ≤ 100 ∧ x.2.2 ∈ wordsL) (hl : L.length ≤ 64) (p : Tri → Bool) : ∃ x : Str, ∀ (H : AH) (i : Nat) (Q : D → AH → Prop), H[i]? = some (.list ((L.filter p).map pairD)) → Q (.txt x) H → Rx (bcall H .repr [.ref i]) Q := by
 have hfl := List.length_filter_le p L;refine repr_list (k := 2) ?_ (by rw [List.length_map]; exact ln2 9231763768885974401 90116116843 1409603 [_,_] [] hl hfl);intro d hd;refine el12 (List.mem_map.mp hd) fun x hx zr1 => ?_;subst zr1;have hx := h x (List.mem_filter.mp hx).1;refine okf_tup (k := 0) ?_ (by simp);intro d' hd';rcases List.mem_cons.mp hd' with rfl | hd'
 ·exact okf_int (by exact ln0 2711040561 [_] []) (by exact ln2 4260096862401 1473601 90118420841 [_,_] [] hx.1 hx.2.1)
 ·rw [List.mem_singleton.mp hd'];exact okf_int (by exact ln0 2711040561 [_] []) (by exact ln1 4260096862401 90118420801 [_] [] hx.2.1)
theorem repr_strs {L : List Str} (h : ∀ x ∈ L, x ∈ wordsL) (hl : L.length ≤ 64) : ∃ x : Str, ∀ (H : AH) (i : Nat) (Q : D → AH → Prop), H[i]? = some (.list (L.map .str)) → Q (.txt x) H → Rx (bcall H .repr [.ref i]) Q := by
 refine repr_list (k := 8) ?_ (by rw [List.length_map]; exact ln1 9231763768886358401 90116116809 [_] [] hl);intro d hd;refine el12 (List.mem_map.mp hd) fun x hx zr1 => ?_;subst zr1;exact okf_str (words_s _ (h x hx))
noncomputable def notY (w : Str) : Bool := w != "Zyyy"
noncomputable def bestOf (g : Str → Int) (l : List Str) : List Str := l.filter fun w => decide ((l.filter fun o => decide (g o > g w)) = [])
theorem first_max (es : List (Str × Int)) : ∀ l : List Str, (∀ w ∈ l, w ≠ "Zyyy") → (l = [] ∧ mainOf es l = "Zyyy") ∨ ∃ A B, l = A ++ mainOf es l :: B ∧ (∀ o ∈ A, gC es o < gC es (mainOf es l)) ∧ ∀ o ∈ l, gC es o ≤ gC es (mainOf es l) := by
 intro l
 induction l using snoc_ind with
 | h0 => exact fun O => .inl ⟨rfl, rfl⟩
 | h1 l w ih =>
  intro h;have hw := h w (List.mem_append_right _ (List.mem_singleton_self _));rw [mainOf_snoc];unfold mainStep;rcases ih fun x hx => h x (List.mem_append_left _ hx) with ⟨rfl, e⟩ | ⟨A, B, e, hA, hl⟩
  ·rw [if_pos ⟨hw, .inl e⟩];exact .inr ⟨[], [], rfl, by simp, by simp⟩
  ·have hne : mainOf es l ≠ "Zyyy" := h _ (List.mem_append_left _ (by
    have h0 : mainOf es l ∈ A ++ mainOf es l :: B := by simp
    rw [← e] at h0
    exact h0))
   by_cases hc : gC es (mainOf es l) < gC es w
   ·rw [if_pos ⟨hw, .inr hc⟩];refine .inr ⟨l, [], rfl, ?_, ?_⟩
    ·intro o ho; have := hl o ho; exact ln2 1742721 1742801 1680321 [] [_,_,_] hc this
    ·intro o ho;rcases List.mem_append.mp ho with ho | ho
     ·have := hl o ho; exact ln2 1678721 1742801 1680321 [] [_,_,_] hc this
     ·rw [List.mem_singleton.mp ho]; exact Int.le_refl _
   ·rw [if_neg (fun h => h.2.elim hne hc)];refine .inr ⟨A, B ++ [w], ?_, hA, ?_⟩
    ·rw [← List.cons_append, ← List.append_assoc, ← e]
    ·intro o ho;rcases List.mem_append.mp ho with ho | ho
     ·exact hl o ho
     ·rw [List.mem_singleton.mp ho]; exact ln1 1678721 1678721 [] [_,_] (Int.not_lt.1 hc)
set_option tactic.hygienic true in
theorem main_filter (es : List (Str × Int)) (ws : List Str) : mainOf es (ws.filter notY) = mainOf es ws := by
 induction ws using snoc_ind with
 | h0 => rfl
 | h1 l w ih =>
  rw [filter_snoc, mainOf_snoc]
  split
  ·rw [mainOf_snoc, ih]
  ·rename_i h;rw [ih];unfold mainStep;rw [if_neg (fun h' => h (by unfold notY; simpa using h'.1))]
set_option tactic.hygienic true in
theorem best_main (es : List (Str × Int)) (ws : List Str) : (bestOf (gC es) (ws.filter notY) ++ [("Zyyy" : Str)]).headD "Zyyy" = mainOf es ws := by
 rw [← main_filter]
 have hw : ∀ w ∈ ws.filter notY, w ≠ "Zyyy" := fun w hw => by simpa [notY] using (List.mem_filter.mp hw).2
 generalize ws.filter notY = l at *;rcases first_max es l hw with ⟨rfl, e⟩ | ⟨A, B, e, hA, hl⟩
 ·rw [e]; rfl
 ·have hp : ∀ w, decide ((l.filter fun o => decide (gC es o > gC es w)) = []) = true ↔ ∀ o ∈ l, gC es o ≤ gC es w := by
   intro w;rw [decide_eq_true_eq, List.filter_eq_nil_iff];constructor
   ·intro h o ho; have := h o ho; rw [decide_eq_true_eq] at this; exact ln1 1678721 1678721 [] [_,_] (Int.not_lt.1 this)
   ·intro h o ho; have := h o ho; rw [decide_eq_true_eq]; exact fun hq => ln2 1200 1742721 1677161 [] [_,_] hq this
  unfold bestOf
  have e2 : (l.filter fun w => decide ((l.filter fun o => decide (gC es o > gC es w)) = [])) = mainOf es l :: (B.filter fun w => decide ((l.filter fun o => decide (gC es o > gC es w)) = [])) := by
   conv => lhs; rw [e]
   generalize hm : mainOf es l = m at *;rw [List.filter_append, List.filter_cons, ← e];have h1 : decide ((l.filter fun o => decide (gC es o > gC es m)) = []) = true := (hp m).mpr hl;rw [if_pos h1]
   have h2 : (A.filter fun w => decide ((l.filter fun o => decide (gC es o > gC es w)) = [])) = [] := by
    rw [List.filter_eq_nil_iff];intro a ha h;have := (hp a).mp h m (by rw [e]; simp);have := hA a ha;exact ln2 1200 1678721 1741161 [] [_,_] ‹_› this
   rw [h2]
   rfl
  rw [e2]
  rfl
end Mine
end

-- XC
section
namespace Mine
abbrev po_counts_right (H : AH) : D → AH → Prop := fun d H' => d = .bool true ∧ Keep H H'
noncomputable def frXC0 (x0 x1 x2 : D) : Loc := [("text", some x0), ("kept", some x1), ("rows", some x2), ("sums", none), ("first", none), ("last", none), ("word", none), ("told", none), ("due", none), ("some", none), ("best", none), ("alone", none)]
noncomputable def frXC1 (x0 x1 x2 x3 : D) : Loc := [("text", some x0), ("kept", some x1), ("rows", some x2), ("sums", some x3), ("first", none), ("last", none), ("word", none), ("told", none), ("due", none), ("some", none), ("best", none), ("alone", none)]
noncomputable def frXC2 (x0 x1 x2 x3 : D) (x4 x5 x6 : Option D) : Loc := [("text", some x0), ("kept", some x1), ("rows", some x2), ("sums", some x3), ("first", x4), ("last", x5), ("word", x6), ("told", none), ("due", none), ("some", none), ("best", none), ("alone", none)]
noncomputable abbrev ivXC0 (kd t a : Nat) (ts : List Row) (H : AH) (f : Nat) : List D → Loc → AH → Prop := fun zr0 zl zh => ∃ zv0 zv1 zv2, zl = (frXC2 (D.ref t) (D.ref kd) (D.ref a) (D.ref f) zv0 zv1 zv2 : Loc) ∧ (fun _ _ _ rr J => Keep H J ∧ ∃ pre rs, pre ++ rs = tri ts ∧ rr = rs.map triD ∧ J[f]? = some (.dict (intD (counts pre)))) zv0 zv1 zv2 zr0 zh
noncomputable def frXC3 (x0 x1 x2 x3 x4 x5 x6 : D) : Loc := [("text", some x0), ("kept", some x1), ("rows", some x2), ("sums", some x3), ("first", some x4), ("last", some x5), ("word", some x6), ("told", none), ("due", none), ("some", none), ("best", none), ("alone", none)]
noncomputable def frXC4 (x0 x1 x2 x3 : D) (x4 x5 x6 : Option D) (x7 : D) : Loc := [("text", some x0), ("kept", some x1), ("rows", some x2), ("sums", some x3), ("first", x4), ("last", x5), ("word", x6), ("told", some x7), ("due", none), ("some", none), ("best", none), ("alone", none)]
noncomputable def frXC5 (x0 x1 x2 x3 : D) (x4 x5 x6 : Option D) (x7 : D) (x8 : Option D) : Loc := [("text", some x0), ("kept", some x1), ("rows", some x2), ("sums", some x3), ("first", x4), ("last", x5), ("word", x6), ("told", some x7), ("due", x8), ("some", none), ("best", none), ("alone", none)]
noncomputable abbrev ivXC1 (kd t a f : Nat) (v1b v2b : Option D) (c : Nat) (J6 : AH) : List D → Loc → AH → Prop := fun zr0 zl zh => ∃ zv0 zv1, zl = (frXC5 (D.ref t) (D.ref kd) (D.ref a) (D.ref f) v1b v2b zv0 (D.ref c) zv1 : Loc) ∧ (fun _ _ rr J7 => Keep J6 J7 ∧ ∃ ws : List Str, rr = ws.map D.str) zv0 zv1 zr0 zh
noncomputable def frXC6 (x0 x1 x2 x3 : D) (x4 x5 : Option D) (x6 x7 : D) (x8 : Option D) : Loc := [("text", some x0), ("kept", some x1), ("rows", some x2), ("sums", some x3), ("first", x4), ("last", x5), ("word", some x6), ("told", some x7), ("due", x8), ("some", none), ("best", none), ("alone", none)]
noncomputable def frXC7 (x0 x1 x2 x3 : D) (x4 x5 : Option D) (x6 x7 : D) (x8 : Option D) : Loc := [(".0", none), ("first", none), ("last", none), ("other", none), ("text", some x0), ("kept", some x1), ("rows", some x2), ("sums", some x3), ("first", x4), ("last", x5), ("word", some x6), ("told", some x7), ("due", x8), ("some", none), ("best", none), ("alone", none)]
noncomputable def frXC8 (x0 x1 x2 : Option D) (x3 x4 x5 x6 : D) (x7 x8 : Option D) (x9 x10 : D) (x11 : Option D) : Loc := [(".0", none), ("first", x0), ("last", x1), ("other", x2), ("text", some x3), ("kept", some x4), ("rows", some x5), ("sums", some x6), ("first", x7), ("last", x8), ("word", some x9), ("told", some x10), ("due", x11), ("some", none), ("best", none), ("alone", none)]
noncomputable abbrev ivXC2 (kd t a : Nat) (ts : List Row) (f : Nat) (v1b v2b : Option D) (c : Nat) (J7 : AH) (v2c : Option D) (w : Str) : List D → List D → Loc → AH → Prop := fun zr0 zr1 zl zh => ∃ zv0 zv1 zv2, zl = (frXC8 zv0 zv1 zv2 (D.ref t) (D.ref kd) (D.ref a) (D.ref f) v1b v2b (D.str w) (D.ref c) v2c : Loc) ∧ (fun _ _ _ rr acc J => J = J7 ∧ ∃ pre rs, pre ++ rs = tri ts ∧ rr = rs.map triD ∧ acc = (pre.filter fun x => x.2.2 == w).map pairD) zv0 zv1 zv2 zr0 zr1 zh
noncomputable def frXC9 (x0 x1 x2 x3 x4 x5 x6 : D) (x7 x8 : Option D) (x9 x10 : D) (x11 : Option D) : Loc := [(".0", none), ("first", some x0), ("last", some x1), ("other", some x2), ("text", some x3), ("kept", some x4), ("rows", some x5), ("sums", some x6), ("first", x7), ("last", x8), ("word", some x9), ("told", some x10), ("due", x11), ("some", none), ("best", none), ("alone", none)]
noncomputable def frXC10 (x0 x1 x2 x3 : D) (x4 x5 : Option D) (x6 x7 x8 : D) : Loc := [("text", some x0), ("kept", some x1), ("rows", some x2), ("sums", some x3), ("first", x4), ("last", x5), ("word", some x6), ("told", some x7), ("due", some x8), ("some", none), ("best", none), ("alone", none)]
noncomputable def frXC11 (x0 x1 x2 x3 : D) (x4 x5 x6 : Option D) (x7 : D) (x8 : Option D) : Loc := [(".0", none), ("first", none), ("last", none), ("word", none), ("text", some x0), ("kept", some x1), ("rows", some x2), ("sums", some x3), ("first", x4), ("last", x5), ("word", x6), ("told", some x7), ("due", x8), ("some", none), ("best", none), ("alone", none)]
noncomputable def frXC12 (x0 x1 x2 : Option D) (x3 x4 x5 x6 : D) (x7 x8 x9 : Option D) (x10 : D) (x11 : Option D) : Loc := [(".0", none), ("first", x0), ("last", x1), ("word", x2), ("text", some x3), ("kept", some x4), ("rows", some x5), ("sums", some x6), ("first", x7), ("last", x8), ("word", x9), ("told", some x10), ("due", x11), ("some", none), ("best", none), ("alone", none)]
noncomputable abbrev ivXC3 (kd t a : Nat) (ts : List Row) (f : Nat) (v1b v2b : Option D) (c : Nat) (J7 : AH) (v1f v2f : Option D) : List D → List D → Loc → AH → Prop := fun zr0 zr1 zl zh => ∃ zv0 zv1 zv2, zl = (frXC12 zv0 zv1 zv2 (D.ref t) (D.ref kd) (D.ref a) (D.ref f) v1b v2b v1f (D.ref c) v2f : Loc) ∧ (fun _ _ _ rr acc J => J = J7 ∧ ∃ pre rs, pre ++ rs = tri ts ∧ rr = rs.map triD ∧ acc = ((wordsOf pre).filter notY).map D.str) zv0 zv1 zv2 zr0 zr1 zh
noncomputable def frXC13 (x0 x1 x2 x3 x4 x5 x6 : D) (x7 x8 x9 : Option D) (x10 : D) (x11 : Option D) : Loc := [(".0", none), ("first", some x0), ("last", some x1), ("word", some x2), ("text", some x3), ("kept", some x4), ("rows", some x5), ("sums", some x6), ("first", x7), ("last", x8), ("word", x9), ("told", some x10), ("due", x11), ("some", none), ("best", none), ("alone", none)]
noncomputable def frXC14 (x0 x1 x2 x3 : D) (x4 x5 x6 : Option D) (x7 : D) (x8 : Option D) (x9 : D) : Loc := [("text", some x0), ("kept", some x1), ("rows", some x2), ("sums", some x3), ("first", x4), ("last", x5), ("word", x6), ("told", some x7), ("due", x8), ("some", some x9), ("best", none), ("alone", none)]
noncomputable def frXC15 (x0 x1 x2 x3 : D) (x4 x5 x6 : Option D) (x7 : D) (x8 : Option D) (x9 : D) : Loc := [(".0", none), ("word", none), ("text", some x0), ("kept", some x1), ("rows", some x2), ("sums", some x3), ("first", x4), ("last", x5), ("word", x6), ("told", some x7), ("due", x8), ("some", some x9), ("best", none), ("alone", none)]
noncomputable def frXC16 (x0 : Option D) (x1 x2 x3 x4 : D) (x5 x6 x7 : Option D) (x8 : D) (x9 : Option D) (x10 : D) : Loc := [(".0", none), ("word", x0), ("text", some x1), ("kept", some x2), ("rows", some x3), ("sums", some x4), ("first", x5), ("last", x6), ("word", x7), ("told", some x8), ("due", x9), ("some", some x10), ("best", none), ("alone", none)]
noncomputable abbrev ivXC4 (kd t a : Nat) (ts : List Row) (f : Nat) (v1b v2b : Option D) (c : Nat) (v1f v2f : Option D) (sm : List Str) (s1 : Nat) (J8 : AH) : List D → List D → Loc → AH → Prop := fun zr0 zr1 zl zh => ∃ zv0, zl = (frXC16 zv0 (D.ref t) (D.ref kd) (D.ref a) (D.ref f) v1b v2b v1f (D.ref c) v2f (D.ref s1) : Loc) ∧ (fun _ rr acc J => Keep J8 J ∧ ∃ pre rs, pre ++ rs = sm ∧ rr = rs.map D.str ∧ acc = (pre.filter fun w => decide ((sm.filter fun o => decide (gC (counts (tri ts)) o > gC (counts (tri ts)) w)) = [])).map D.str) zv0 zr0 zr1 zh
noncomputable def frXC17 (x0 x1 x2 x3 x4 : D) (x5 x6 x7 : Option D) (x8 : D) (x9 : Option D) (x10 : D) : Loc := [(".0", none), ("word", some x0), ("text", some x1), ("kept", some x2), ("rows", some x3), ("sums", some x4), ("first", x5), ("last", x6), ("word", x7), ("told", some x8), ("due", x9), ("some", some x10), ("best", none), ("alone", none)]
noncomputable def frXC18 (x0 x1 x2 x3 x4 : D) (x5 x6 x7 : Option D) (x8 : D) (x9 : Option D) (x10 : D) : Loc := [(".0", none), ("other", none), (".0", none), ("word", some x0), ("text", some x1), ("kept", some x2), ("rows", some x3), ("sums", some x4), ("first", x5), ("last", x6), ("word", x7), ("told", some x8), ("due", x9), ("some", some x10), ("best", none), ("alone", none)]
noncomputable def frXC19 (x0 : Option D) (x1 x2 x3 x4 x5 : D) (x6 x7 x8 : Option D) (x9 : D) (x10 : Option D) (x11 : D) : Loc := [(".0", none), ("other", x0), (".0", none), ("word", some x1), ("text", some x2), ("kept", some x3), ("rows", some x4), ("sums", some x5), ("first", x6), ("last", x7), ("word", x8), ("told", some x9), ("due", x10), ("some", some x11), ("best", none), ("alone", none)]
noncomputable abbrev ivXC5 (kd t a : Nat) (ts : List Row) (f : Nat) (v1b v2b : Option D) (c : Nat) (v1f v2f : Option D) (sm : List Str) (s1 : Nat) (J9 : AH) (w : Str) : List D → List D → Loc → AH → Prop := fun zr0 zr1 zl zh => ∃ zv0, zl = (frXC19 zv0 (D.str w) (D.ref t) (D.ref kd) (D.ref a) (D.ref f) v1b v2b v1f (D.ref c) v2f (D.ref s1) : Loc) ∧ (fun _ rr acc J => J = J9 ∧ ∃ pre rs, pre ++ rs = sm ∧ rr = rs.map D.str ∧ acc = (pre.filter fun o => decide (gC (counts (tri ts)) o > gC (counts (tri ts)) w)).map D.str) zv0 zr0 zr1 zh
noncomputable def frXC20 (x0 x1 x2 x3 x4 x5 : D) (x6 x7 x8 : Option D) (x9 : D) (x10 : Option D) (x11 : D) : Loc := [(".0", none), ("other", some x0), (".0", none), ("word", some x1), ("text", some x2), ("kept", some x3), ("rows", some x4), ("sums", some x5), ("first", x6), ("last", x7), ("word", x8), ("told", some x9), ("due", x10), ("some", some x11), ("best", none), ("alone", none)]
noncomputable def frXC21 (x0 x1 x2 x3 : D) (x4 x5 x6 : Option D) (x7 : D) (x8 : Option D) (x9 x10 : D) : Loc := [("text", some x0), ("kept", some x1), ("rows", some x2), ("sums", some x3), ("first", x4), ("last", x5), ("word", x6), ("told", some x7), ("due", x8), ("some", some x9), ("best", some x10), ("alone", none)]
noncomputable def frXC22 (x0 x1 x2 x3 : D) (x4 x5 x6 : Option D) (x7 : D) (x8 : Option D) (x9 x10 x11 : D) : Loc := [("text", some x0), ("kept", some x1), ("rows", some x2), ("sums", some x3), ("first", x4), ("last", x5), ("word", x6), ("told", some x7), ("due", x8), ("some", some x9), ("best", some x10), ("alone", some x11)]
noncomputable def frXC23 (x0 x1 x2 x3 : D) (x4 x5 x6 : Option D) (x7 : D) (x8 : Option D) (x9 x10 x11 : D) : Loc := [(".0", none), ("code", none), ("text", some x0), ("kept", some x1), ("rows", some x2), ("sums", some x3), ("first", x4), ("last", x5), ("word", x6), ("told", some x7), ("due", x8), ("some", some x9), ("best", some x10), ("alone", some x11)]
noncomputable def frXC24 (x0 : Option D) (x1 x2 x3 x4 : D) (x5 x6 x7 : Option D) (x8 : D) (x9 : Option D) (x10 x11 x12 : D) : Loc := [(".0", none), ("code", x0), ("text", some x1), ("kept", some x2), ("rows", some x3), ("sums", some x4), ("first", x5), ("last", x6), ("word", x7), ("told", some x8), ("due", x9), ("some", some x10), ("best", some x11), ("alone", some x12)]
noncomputable abbrev ivXC6 (kd t a : Nat) (ts : List Row) (f : Nat) (v1b v2b : Option D) (c : Nat) (v1f v2f : Option D) (s1 bb al : Nat) (J14 : AH) : List D → List D → Loc → AH → Prop := fun zr0 zr1 zl zh => ∃ zv0, zl = (frXC24 zv0 (D.ref t) (D.ref kd) (D.ref a) (D.ref f) v1b v2b v1f (D.ref c) v2f (D.ref s1) (D.ref bb) (D.ref al) : Loc) ∧ (fun _ rr acc J => Keep J14 J ∧ ∃ pre rs, pre ++ rs = ts ∧ rr = textD rs ∧ acc = (pre.map own).map D.str) zv0 zr0 zr1 zh
noncomputable def frXC25 (x0 x1 x2 x3 x4 : D) (x5 x6 x7 : Option D) (x8 : D) (x9 : Option D) (x10 x11 x12 : D) : Loc := [(".0", none), ("code", some x0), ("text", some x1), ("kept", some x2), ("rows", some x3), ("sums", some x4), ("first", x5), ("last", x6), ("word", x7), ("told", some x8), ("due", x9), ("some", some x10), ("best", some x11), ("alone", some x12)]
noncomputable abbrev ivXC7 (kd t a f : Nat) (v1b v2b : Option D) (c : Nat) (v2f : Option D) (s1 bb : Nat) (J13 : AH) (al : Nat) (pre : List Row) (b2 : Nat) : List D → Loc → AH → Prop := fun zr0 zl zh => ∃ zv0, zl = (frXC22 (D.ref t) (D.ref kd) (D.ref a) (D.ref f) v1b v2b zv0 (D.ref c) v2f (D.ref s1) (D.ref bb) (D.ref al) : Loc) ∧ (fun _ rr J => Keep J13 J ∧ J[b2]? = some (.list ((srt (pre.map own)).map .str)) ∧ ∃ p2 rs, p2 ++ rs = srt (pre.map own) ∧ rr = rs.map D.str ∧ J[al]? = some (.list ((uq plain2 p2).map .str))) zv0 zr0 zh
noncomputable def frXC26 (x0 x1 x2 x3 : D) (x4 x5 : Option D) (x6 x7 : D) (x8 : Option D) (x9 x10 x11 : D) : Loc := [("text", some x0), ("kept", some x1), ("rows", some x2), ("sums", some x3), ("first", x4), ("last", x5), ("word", some x6), ("told", some x7), ("due", x8), ("some", some x9), ("best", some x10), ("alone", some x11)]
theorem counts_right {m kd t a : Nat} {ts : List Row} {H : AH} (hm : 200 ≤ m) (K : Kept H kd ts) (hts : ∀ r ∈ ts, r ∈ rowsL) (ht : H[t]? = some (.list (textD ts))) (hl : ts.length ≤ 8) (ha : H[a]? = some (.list ((tri ts).map triD))) :
  Rx ((ev ge m).cl (.fn 325) [.ref t, .ref kd, .ref a] H) (po_counts_right H) := by
 obtain ⟨n, rfl⟩ : ∃ n, m = n + 200 := ⟨m - 200, by exact Nat.le_antisymm (ln1 146801152833601 163905548820841 [_,_] [] (Nat.sub_add_cancel (ln1 90112320521 90112320521 [_] [] hm))) (ln1 144408588820801 157515788820801 [_,_] [] (Nat.sub_add_cancel (ln1 90112320521 90112320521 [_] [] hm)))⟩;have htl := tri_len hts
 have hlen3 : ((tri ts).map triD).length ≤ maxLen := by refine lm ?_; exact ln2 90374164801 56854441 1409601 [_,_] [] hl htl
 refine zcF (frXC0 (D.ref t) (D.ref kd) (D.ref a)) ?_;refine zsK ?_;refine zsN ?_;refine zD ?_; simp only [List.zip_cons_cons, List.zip_nil_left, List.zip_nil_right];refine p_nil ?_;intro f H1 k1 hf lf;refine zsL (frXC1 (D.ref t) (D.ref kd) (D.ref a) (D.ref f)) ?_;refine zsK ?_;refine zsF ?_;refine zN (.ref a) ?_
 have hfa : f ≠ a := by have := lt_of_at ha; exact fun hq => ln3 1200 1537601 1408081 1475241 [_,_,_] [] hq lf this
 refine in23 _ _ (src_ref (k1 _ _ ha)) hlen3 ?_;refine zlp (ivXC0 kd t a ts H f) ?_ ?_ ?_
 ·intro d rr _ J zi1;refine el33 zi1 fun v1a v2a v3a zr2 k zq3 => ?_;clear zi1;subst zr2;refine el23 zq3 fun pre rs hp hrr hf => ?_;clear zq3;refine el23 (map_cons_inv hrr) fun x rs zr1 zr2 zr3 => ?_;subst zr1;subst zr2;subst zr3
  have hpl : pre.length ≤ 50 := by have := congrArg List.length hp; simp at this; exact ln3 90115220801 56854441 1409681 157681257860801 [_,_,_,_] [] hl htl this
  have hcl := counts_len pre;refine l_step ?_;refine zbT (frXC3 (D.ref t) (D.ref kd) (D.ref a) (D.ref f) (D.int (↑x.fst : Int)) (D.int (↑x.snd.fst : Int)) (D.str x.snd.snd)) ?_;refine zsK ?_;refine zsS ?_;refine zP ?_;refine zP ?_;refine zM ?_;refine zN (.ref f) ?_;refine zmO hf ?_;refine zlC ?_;refine zN (.str x.snd.snd) ?_;refine zlC ?_;refine zI ?_;refine l_nil ?_;refine m_get2 hf ?_;rw [lookup_intD]
  have e0 : ((List.lookup x.2.2 (counts pre)).map D.int).getD (.int 0) = .int (((counts pre).lookup x.2.2).getD 0) := by
   cases (counts pre).lookup x.2.2 <;> rfl
  rw [e0];refine zN (.int (↑x.snd.fst : Int)) ?_;refine b_add ?_;refine zN (.int (↑x.fst : Int)) ?_;refine b_sub ?_;refine zN (.ref f) ?_;refine zN (.str x.snd.snd) ?_;refine u_dict hf (by refine lm ?_; exact ln2 90374164801 90115220841 1409601 [_,_] [] hpl hcl) ?_;rw [putE_intD];refine s_nil ?_;refine ⟨still_ref (at_set_ne hfa (k _ _ ha)), _, _, _, rfl, k.set lf, pre ++ [x], rs, by simpa using hp, rfl, ?_⟩;rw [at_set hf, counts_snoc]
  rfl
 ·intro _ J zi1;refine el33 zi1 fun v1b v2b v3b zr2 k zq3 => ?_;clear zi1;subst zr2;refine el23 zq3 fun pre rs hp hrr hf => ?_;clear zq3;rw [map_nil_inv hrr, List.append_nil] at hp;subst hp;have hgood := tri_good hts;have hhas := counts_has (tri ts);have hmem := counts_mem (tri ts) hgood;have hcl := counts_len (tri ts)
  have hmem2 : ∀ p ∈ counts (tri ts), p.1 ∈ wordsL ∧ 0 ≤ p.2 ∧ p.2 ≤ 100 := by
   intro p hp;have h := hmem p hp;refine in03 h.1 h.2.1 ?_
   have h1 : ((ts.length * (tri ts).length : Nat) : Int) ≤ ((8 * 8 : Nat) : Int) := by
    exact_mod_cast Nat.mul_le_mul hl (Nat.le_trans htl hl)
   have h2 := h.2.2;rw [← Int.natCast_mul] at h2
   omega
  refine el11 (repr_counts hmem2 (by exact ln3 94212116801 56854441 1409681 1411201 [_,_,_] [] hl htl hcl)) fun x1 hx1 => ?_;have KJ := K.keep k;refine zsK ?_;refine zsN ?_;refine zK (.fn 124) ?_;refine zlC ?_;refine zN (.ref t) ?_;refine zlC ?_;refine zN (.ref kd) ?_;refine l_nil ?_;refine (script_counts (by exact ln0 601318238485925888256521 [_] []) KJ hts (k _ _ ht) (by exact ln1 90115220801 56854401 [_] [] hl)).mono ?_;intro _ J1 zi1;refine el14 zi1 fun c zr2 kj1 hc lc => ?_;clear zi1;subst zr2;refine zsL (frXC4 (D.ref t) (D.ref kd) (D.ref a) (D.ref f) v1b v2b v3b (D.ref c)) ?_;refine zsK ?_;refine zsI ?_;refine ztC ?_;refine zK (.bi Bi.repr) ?_;refine zlC ?_;refine zK (.bi Bi.sorted) ?_;refine zlC ?_;refine zM ?_;refine zN (.ref c) ?_;refine zmO hc ?_;refine l_nil ?_;refine m_items hc ?_;refine l_nil ?_;refine c_bi ?_;refine w_items hc (by exact ln3 94212116801 56854441 1409681 1411201 [_,_,_] [] hl htl hcl) ?_;intro c2 J2 kj2 hc2 lc2;refine l_nil ?_;refine c_bi ?_;refine hx1 _ _ _ hc2 ?_;refine zK (.bi Bi.repr) ?_;refine zlC ?_;refine zK (.bi Bi.sorted) ?_;refine zlC ?_;refine zM ?_;refine zN (.ref f) ?_;have kj12 := kj1.trans kj2;have hf2 := kj12 _ _ hf;refine zmO hf2 ?_;refine l_nil ?_;refine m_items hf2 ?_;refine l_nil ?_;refine c_bi ?_;refine w_items hf2 (by exact ln3 94212116801 56854441 1409681 1411201 [_,_,_] [] hl htl hcl) ?_;intro c3 J3 kj3 hc3 lc3;refine l_nil ?_;refine c_bi ?_;refine hx1 _ _ _ hc3 ?_;refine k_ne (eq_txt _ _) ?_;rw [decide_eq_true rfl];refine ite_no ?_;refine s_nil ?_;refine zsK ?_;refine zsF ?_;refine zP ?_;refine zK (.bi Bi.list) ?_;refine zlC ?_;refine zN (.ref f) ?_;refine l_nil ?_;refine c_bi ?_;have kj13 := kj12.trans kj3;have hf3 := kj13 _ _ hf;refine w_listd hf3 (by refine lm ?_; exact ln3 90374164801 56854441 1409681 1411201 [_,_,_] [] hl htl hcl) ?_;intro c4 J4 kj4 hc4 lc4;refine zL ?_;refine zlC ?_;refine zS ?_;refine zlC ?_;refine zS ?_;refine zlC ?_;refine zS ?_;refine l_nil ?_;refine ⟨by simp [maxLen], ?_⟩;intro c5 J5 kj5 hc5 lc5;refine b_lists (kj5 _ _ hc4) hc5 (by simp [maxLen]; exact ln3 90373972801 56854441 1409681 1411201 [_,_,_] [] hl htl hcl) ?_;intro c6 J6 kj6 hc6 lc6;have kj16 := ((kj13.trans kj4).trans kj5).trans kj6;have kH6 := k.trans kj16
  have ews : (intD (counts (tri ts))).map (fun e => D.str e.1) ++ [D.str "Latn", D.str "Zyyy", D.str "Goth"] = ((counts (tri ts)).map (·.1) ++ (["Latn", "Zyyy", "Goth"] : List Str)).map D.str := by
   rw [List.map_append, List.map_map, List.map_map]; rfl
  rw [ews] at hc6;have hf6 := kj16 _ _ hf;refine in23 _ _ (src_ref hc6) (by simp [maxLen]; exact ln3 90373972801 56854441 1409681 1411201 [_,_,_] [] hl htl hcl) ?_;refine zlp (ivXC1 kd t a f v1b v2b c J6) ?_ ?_ ?_
  ·intro d rr _ J7 zi1;refine el23 zi1 fun v1c v2c zr2 kj7 zq3 => ?_;clear zi1;subst zr2;refine el11 zq3 fun ws hrr => ?_;clear zq3;refine el23 (map_cons_inv hrr) fun w ws zr1 zr2 zr3 => ?_;subst zr1;subst zr2;subst zr3;have kH7 := kH6.trans kj7;refine l_step ?_;refine zbT (frXC6 (D.ref t) (D.ref kd) (D.ref a) (D.ref f) v1b v2b (D.str w) (D.ref c) v2c) ?_;refine zsK ?_;refine zsC ?_;refine zY (frXC7 (D.ref t) (D.ref kd) (D.ref a) (D.ref f) v1b v2b (D.str w) (D.ref c) v2c) ?_;refine zN (.ref a) ?_;refine in23 _ _ (src_ref (kH7 _ _ ha)) hlen3 ?_;refine zcp (ivXC2 kd t a ts f v1b v2b c J7 v2c w) ?_ ?_ ?_
   ·intro d rr acc _ J zi1;refine el33 zi1 fun v1d v2d v3d zr2 zr3 zq4 => ?_;clear zi1;subst zr2;subst zr3;refine el23 zq4 fun pre rs hp hrr zr5 => ?_;clear zq4;subst zr5;refine el23 (map_cons_inv hrr) fun x rs zr1 zr2 zr3 => ?_;subst zr1;subst zr2;subst zr3;refine zc1 ?_;refine zbT (frXC9 (D.int (↑x.fst : Int)) (D.int (↑x.snd.fst : Int)) (D.str x.snd.snd) (D.ref t) (D.ref kd) (D.ref a) (D.ref f) v1b v2b (D.str w) (D.ref c) v2c) ?_;refine ztC ?_;refine zN (.str x.snd.snd) ?_;refine zN (.str w) ?_;refine k_eq (eq_strs _ _ _) ?_
    cases hx : (x.2.2 == w) with
    | true =>
     refine ite_yes ?_;refine zT ?_;refine zlC ?_;refine zN (.int (↑x.fst : Int)) ?_;refine zlC ?_;refine zN (.int (↑x.snd.fst : Int)) ?_;refine l_nil ?_;refine ⟨still_ref (kH7 _ _ ha), _, _, _, rfl, rfl, pre ++ [x], rs, by simpa using hp, rfl, ?_⟩;dsimp only;rw [filter_snoc, if_pos hx, List.map_append]
     rfl
    | false =>
     refine ite_no ?_;refine ⟨still_ref (kH7 _ _ ha), _, _, _, rfl, rfl, pre ++ [x], rs, by simpa using hp, rfl, ?_⟩;dsimp only;rw [filter_snoc, if_neg (by simp [hx])]
   ·intro ys _ J zi1;refine el33 zi1 fun v1e v2e v3e zr2 zr3 zq4 => ?_;clear zi1;subst zr2;subst zr3;refine el23 zq4 fun pre rs hp hrr hy => ?_;clear zq4;rw [map_nil_inv hrr, List.append_nil] at hp;subst hp;rw [List.nil_append] at hy;subst hy;have hfl := List.length_filter_le (fun x : Tri => x.2.2 == w) (tri ts)
    have hfl2 : (((tri ts).filter fun x : Tri => x.2.2 == w).map pairD).length ≤ maxLen := by refine lm ?_; exact ln3 90374164801 56854441 1409681 1411201 [_,_,_] [] hl htl hfl
    refine ⟨hfl2, ?_⟩;intro b J8 kj8 hb lb;have kH8 := kH7.trans kj8;refine zsL (frXC10 (D.ref t) (D.ref kd) (D.ref a) (D.ref f) v1b v2b (D.str w) (D.ref c) (D.ref b)) ?_;refine zsK ?_;refine zsI ?_;refine ztC ?_;refine zK (.bi Bi.repr) ?_;refine zlC ?_;refine zK (.bi Bi.list) ?_;refine zlC ?_;refine zK (.fn 117) ?_;refine zlC ?_;refine zN (.ref t) ?_;refine zlC ?_;refine zN (.ref kd) ?_;refine zlC ?_;refine zN (.str w) ?_;refine l_nil ?_;refine (script_spans (by exact ln0 601318238485270528256521 [_] []) (K.keep kH8) hts (kH8 _ _ ht) (by exact ln1 90115220801 56854401 [_] [] hl)).mono ?_;intro _ J9 zi1;refine el13 zi1 fun e zr2 kj9 he => ?_;clear zi1;subst zr2;refine l_nil ?_;refine c_bi ?_;refine w_listl he hfl2 ?_;intro g J10 kj10 hg lg;refine el11 (repr_pairs (N := 0) (L := tri ts) (fun x hx => by have := hgood x hx; exact ⟨this.1, by exact ln2 90118420801 56854441 1409601 [_,_] [] hl this.2.1, this.2.2⟩) (by exact ln2 90116116801 56854441 1409601 [_,_] [] hl htl) (fun x : Tri => x.2.2 == w)) fun x2 hx2 => ?_;refine l_nil ?_;refine c_bi ?_;refine hx2 _ _ _ hg ?_;refine zK (.bi Bi.repr) ?_;refine zlC ?_;refine zN (.ref b) ?_;refine l_nil ?_;refine c_bi ?_;have kb := kj9.trans kj10;refine hx2 _ _ _ (kb _ _ hb) ?_;refine k_ne (eq_txt _ _) ?_;rw [decide_eq_true rfl];refine ite_no ?_;refine s_nil ?_;refine s_nil ?_;have k7f := (kj7.trans kj8).trans kb;exact ⟨still_ref (k7f _ _ hc6), _, _, rfl, k7f, ws, rfl⟩
   ·exact in33 _ _ _ rfl rfl ⟨[], tri ts, rfl, rfl, rfl⟩
  ·intro _ J7 zi1;refine el23 zi1 fun v1f v2f zr2 kj7 zq3 => ?_;clear zi1;subst zr2;refine el11 zq3 fun ws hrr => ?_;clear zq3;have kH7 := kH6.trans kj7;have hf7 := kj7 _ _ hf6;refine zsK ?_;refine zsC ?_;refine zY (frXC11 (D.ref t) (D.ref kd) (D.ref a) (D.ref f) v1b v2b v1f (D.ref c) v2f) ?_;refine zN (.ref a) ?_;refine in23 _ _ (src_ref (kH7 _ _ ha)) hlen3 ?_;refine zcp (ivXC3 kd t a ts f v1b v2b c J7 v1f v2f) ?_ ?_ ?_
   ·intro d rr acc _ J zi1;refine el33 zi1 fun v1g v2g v3g zr2 zr3 zq4 => ?_;clear zi1;subst zr2;subst zr3;refine el23 zq4 fun pre rs hp hrr zr5 => ?_;clear zq4;subst zr5;refine el23 (map_cons_inv hrr) fun x rs zr1 zr2 zr3 => ?_;subst zr1;subst zr2;subst zr3;refine zc1 ?_;refine zbT (frXC13 (D.int (↑x.fst : Int)) (D.int (↑x.snd.fst : Int)) (D.str x.snd.snd) (D.ref t) (D.ref kd) (D.ref a) (D.ref f) v1b v2b v1f (D.ref c) v2f) ?_;refine ztC ?_;refine zN (.str x.snd.snd) ?_;refine zS ?_;refine k_ne (eq_strs _ _ _) ?_
    cases hx : (x.2.2 == "Zyyy") with
    | true =>
     refine ite_no ?_;refine ⟨still_ref (kH7 _ _ ha), _, _, _, rfl, rfl, pre ++ [x], rs, by simpa using hp, rfl, ?_⟩;rw [show wordsOf (pre ++ [x]) = wordsOf pre ++ [x.2.2] by simp [wordsOf], filter_snoc, if_neg (by unfold notY bne; rw [hx]; decide)]
    | false =>
     refine ite_yes ?_;refine zN (.str x.snd.snd) ?_;refine ⟨still_ref (kH7 _ _ ha), _, _, _, rfl, rfl, pre ++ [x], rs, by simpa using hp, rfl, ?_⟩;rw [show wordsOf (pre ++ [x]) = wordsOf pre ++ [x.2.2] by simp [wordsOf], filter_snoc, if_pos (by unfold notY bne; rw [hx]; decide), List.map_append]
     rfl
   ·intro ys _ J zi1;refine el33 zi1 fun v1h v2h v3h zr2 zr3 zq4 => ?_;clear zi1;subst zr2;subst zr3;refine el23 zq4 fun pre rs hp hrr hy => ?_;clear zq4;rw [map_nil_inv hrr, List.append_nil] at hp;subst hp;rw [List.nil_append] at hy;subst hy
    have hsl : ((wordsOf (tri ts)).filter notY).length ≤ 8 := by
     have := List.length_filter_le notY (wordsOf (tri ts));rw [List.length_map] at this;exact ln3 56854401 56854441 1409681 1411201 [_,_,_] [] hl htl this
    have hsm : ∀ w ∈ (wordsOf (tri ts)).filter notY, ((counts (tri ts)).lookup w).isSome = true := by
     intro w hw;refine el12 (List.mem_map.mp (List.mem_filter.mp hw).1) fun x hx zr1 => ?_;subst zr1;exact hhas x hx
    have hbm := best_main (counts (tri ts)) (wordsOf (tri ts));generalize (wordsOf (tri ts)).filter notY = sm at *;refine ⟨by refine lm ?_; exact ln1 90374164801 56854401 [_] [] hsl, ?_⟩;intro s1 J8 kj8 hs1 ls1;have kH8 := kH7.trans kj8;have hf8 := kj8 _ _ hf7;refine zsL (frXC14 (D.ref t) (D.ref kd) (D.ref a) (D.ref f) v1b v2b v1f (D.ref c) v2f (D.ref s1)) ?_;refine zsK ?_;refine zsC ?_;refine zY (frXC15 (D.ref t) (D.ref kd) (D.ref a) (D.ref f) v1b v2b v1f (D.ref c) v2f (D.ref s1)) ?_;refine zN (.ref s1) ?_;refine in23 _ _ (src_ref hs1) (by refine lm ?_; exact ln1 90374164801 56854401 [_] [] hsl) ?_;refine zcp (ivXC4 kd t a ts f v1b v2b c v1f v2f sm s1 J8) ?_ ?_ ?_
    ·intro d rr acc _ J9 zi1;refine el13 zi1 fun v1i zr2 kj9 zq3 => ?_;clear zi1;subst zr2;refine el23 zq3 fun pre rs hp hrr zr4 => ?_;clear zq3;subst zr4;refine el23 (map_cons_inv hrr) fun w rs zr1 zr2 zr3 => ?_;subst zr1;subst zr2;subst zr3
     have hws : w ∈ sm := by rw [← hp]; exact List.mem_append_right _ List.mem_cons_self
     have hf9 := kj9 _ _ hf8;refine zc1 ?_;refine zbT (frXC17 (D.str w) (D.ref t) (D.ref kd) (D.ref a) (D.ref f) v1b v2b v1f (D.ref c) v2f (D.ref s1)) ?_;refine ztC ?_;refine zY (frXC18 (D.str w) (D.ref t) (D.ref kd) (D.ref a) (D.ref f) v1b v2b v1f (D.ref c) v2f (D.ref s1)) ?_;refine zN (.ref s1) ?_;refine in23 _ _ (src_ref (kj9 _ _ hs1)) (by refine lm ?_; exact ln1 90374164801 56854401 [_] [] hsl) ?_;refine zcp (ivXC5 kd t a ts f v1b v2b c v1f v2f sm s1 J9 w) ?_ ?_ ?_
     ·intro d rr acc _ J zi1;refine el13 zi1 fun v1j zr2 zr3 zq4 => ?_;clear zi1;subst zr2;subst zr3;refine el23 zq4 fun pre rs hp hrr zr5 => ?_;clear zq4;subst zr5;refine el23 (map_cons_inv hrr) fun o rs zr1 zr2 zr3 => ?_;subst zr1;subst zr2;subst zr3
      have hos : o ∈ sm := by rw [← hp]; exact List.mem_append_right _ List.mem_cons_self
      refine zc1 ?_;refine zbT (frXC20 (D.str o) (D.str w) (D.ref t) (D.ref kd) (D.ref a) (D.ref f) v1b v2b v1f (D.ref c) v2f (D.ref s1)) ?_;refine ztC ?_;refine zX ?_;refine zN (.ref f) ?_;refine zN (.str o) ?_;refine g_dict hf9 (lookup_gC (hsm o hos)) ?_;refine zX ?_;refine zN (.ref f) ?_;refine zN (.str w) ?_;refine g_dict hf9 (lookup_gC (hsm w hws)) ?_;refine k_gt ?_
      by_cases hx : gC (counts (tri ts)) o > gC (counts (tri ts)) w
      ·refine ite_t (by rw [decide_eq_true_eq]; exact hx) ?_;refine zN (.str o) ?_;refine ⟨still_ref (kj9 _ _ hs1), _, rfl, rfl, pre ++ [o], rs, by simpa using hp, rfl, ?_⟩;dsimp only;rw [filter_snoc, if_pos (by rw [decide_eq_true_eq]; exact hx), List.map_append]
       rfl
      ·refine ite_f (by rw [decide_eq_true_eq]; exact hx) ?_;refine ⟨still_ref (kj9 _ _ hs1), _, rfl, rfl, pre ++ [o], rs, by simpa using hp, rfl, ?_⟩;dsimp only;rw [filter_snoc, if_neg (by rw [decide_eq_true_eq]; exact hx)]
     ·intro ys _ J zi1;refine el13 zi1 fun v1k zr2 zr3 zq4 => ?_;clear zi1;subst zr2;subst zr3;refine el23 zq4 fun pre2 rs2 hp2 hrr2 hy => ?_;clear zq4;rw [map_nil_inv hrr2, List.append_nil] at hp2;subst hp2;rw [List.nil_append] at hy;subst hy;have hfl := List.length_filter_le (fun o => decide (gC (counts (tri ts)) o > gC (counts (tri ts)) w)) pre2;refine ⟨by refine lm ?_; exact ln2 90374164801 56854441 1409601 [_,_] [] hsl hfl, ?_⟩;intro b J10 kj10 hb lb;refine zL ?_;refine l_nil ?_;refine ⟨by simp [maxLen], ?_⟩;intro b2 J11 kj11 hb2 lb2;refine k_eq (eq_nil_strs (kj11 _ _ hb) hb2) ?_;have kk := (kj9.trans kj10).trans kj11
      by_cases hx : (pre2.filter fun o => decide (gC (counts (tri ts)) o > gC (counts (tri ts)) w)) = []
      ·refine ite_t (by rw [decide_eq_true_eq]; exact hx) ?_;refine zN (.str w) ?_;refine ⟨still_ref (kk _ _ hs1), _, rfl, kk, pre ++ [w], rs, by simpa using hp, rfl, ?_⟩;dsimp only;rw [filter_snoc, if_pos (by rw [decide_eq_true_eq]; exact hx), List.map_append]
       rfl
      ·refine ite_f (by rw [decide_eq_true_eq]; exact hx) ?_;refine ⟨still_ref (kk _ _ hs1), _, rfl, kk, pre ++ [w], rs, by simpa using hp, rfl, ?_⟩;dsimp only;rw [filter_snoc, if_neg (by rw [decide_eq_true_eq]; exact hx)]
     ·exact in13 _ rfl rfl ⟨[], sm, rfl, rfl, rfl⟩
    ·intro ys _ J9 zi1;refine el13 zi1 fun v1l zr2 kj9 zq3 => ?_;clear zi1;subst zr2;refine el23 zq3 fun pre rs hp hrr hy => ?_;clear zq3;rw [map_nil_inv hrr, List.append_nil] at hp;subst hp;rw [List.nil_append] at hy
     change ys = (bestOf (gC (counts (tri ts))) pre).map D.str at hy
     subst hy
     have hbl : (bestOf (gC (counts (tri ts))) pre).length ≤ 8 := by
      have := List.length_filter_le (fun w => decide ((pre.filter fun o => decide (gC (counts (tri ts)) o > gC (counts (tri ts)) w)) = [])) pre;unfold bestOf;exact ln2 56854401 56854441 1409601 [_,_] [] hsl this
     refine ⟨by refine lm ?_; exact ln1 90374164801 56854401 [_] [] hbl, ?_⟩;intro bb J10 kj10 hb lb;have kH10 := (kH8.trans kj9).trans kj10;refine zsL (frXC21 (D.ref t) (D.ref kd) (D.ref a) (D.ref f) v1b v2b v1f (D.ref c) v2f (D.ref s1) (D.ref bb)) ?_;refine zsK ?_;refine zsI ?_;refine ztC ?_;refine zK (.fn 131) ?_;refine zlC ?_;refine zN (.ref t) ?_;refine zlC ?_;refine zN (.ref kd) ?_;refine l_nil ?_;refine (main_script (by exact ln0 601318238485762048288521 [_] []) (K.keep kH10) hts (kH10 _ _ ht) (by exact ln1 90115220801 56854401 [_] [] hl)).mono ?_;intro _ J11 zi1;refine el02 zi1 fun zr2 kj11 => ?_;clear zi1;subst zr2;refine zX ?_;refine zP ?_;refine zN (.ref bb) ?_;refine zL ?_;refine zlC ?_;refine zS ?_;refine l_nil ?_;refine ⟨by simp [maxLen], ?_⟩;intro b2 J12 kj12' hb2 lb2;have kk := kj11.trans kj12';refine b_lists (kk _ _ hb) hb2 (by rw [List.length_append, List.length_map]; simp [maxLen]; exact ln1 90374100801 56854401 [_] [] hbl) ?_;intro b3 J13 kj13' hb3 lb3;refine zI ?_
     have e0 : ∀ (A : List Str), (A.map D.str ++ [D.str "Zyyy"])[0]? = some (.str ((A ++ [("Zyyy" : Str)]).headD "Zyyy")) := by
      intro A
      cases A <;> rfl
     refine g_list hb3 (by rw [List.length_append, List.length_map]; simp [maxLen]; exact ln1 90374100801 56854401 [_] [] hbl) (nth_nat (k := 0) (e0 _)) ?_;rw [hbm];refine k_ne (eq_strs _ _ _) ?_;rw [show (mainOf (counts (tri ts)) (wordsOf (tri ts)) == mainOf (counts (tri ts)) (wordsOf (tri ts))) = true by simp];refine ite_no ?_;refine s_nil ?_;refine zsK ?_;refine zsN ?_;refine zL ?_;refine l_nil ?_;have kH13 := (kH10.trans kk).trans kj13';refine ⟨by simp [maxLen], ?_⟩;intro al J14 kj14 hal lal;have kH14 := kH13.trans kj14;refine zsL (frXC22 (D.ref t) (D.ref kd) (D.ref a) (D.ref f) v1b v2b v1f (D.ref c) v2f (D.ref s1) (D.ref bb) (D.ref al)) ?_;refine zsK ?_;refine zsF ?_;refine zK (.bi Bi.sorted) ?_;refine zlC ?_;refine zY (frXC23 (D.ref t) (D.ref kd) (D.ref a) (D.ref f) v1b v2b v1f (D.ref c) v2f (D.ref s1) (D.ref bb) (D.ref al)) ?_;refine zN (.ref t) ?_
     have hpl8 : (textD ts).length ≤ maxLen := by simp [maxLen]; exact ln1 90374164801 56854401 [_] [] hl
     refine in23 _ _ (src_ref (kH14 _ _ ht)) hpl8 ?_;refine zcp (ivXC6 kd t a ts f v1b v2b c v1f v2f s1 bb al J14) ?_ ?_ ?_
     ·intro d rr acc _ J zi1;refine el13 zi1 fun v1m zr2 kj zq3 => ?_;clear zi1;subst zr2;refine el23 zq3 fun pre rs hp hrr zr4 => ?_;clear zq3;subst zr4;refine el23 (text_cons hrr) fun x rs zr1 zr2 zr3 => ?_;subst zr1;subst zr2;subst zr3;have hx : x ∈ rowsL := hts x (by rw [← hp]; exact List.mem_append_right _ List.mem_cons_self);refine zc0 ?_;refine zbT (frXC25 (D.int x.fst) (D.ref t) (D.ref kd) (D.ref a) (D.ref f) v1b v2b v1f (D.ref c) v2f (D.ref s1) (D.ref bb) (D.ref al)) ?_;refine zK (.fn 284) ?_;refine zlC ?_;refine zN (.int x.fst) ?_;refine l_nil ?_;refine (law_own (by exact ln0 375823899053498928561 [_] []) hx).mono ?_;intro _ J15 zi1;refine el02 zi1 fun zr2 kj15 => ?_;clear zi1;subst zr2;have kk := kj.trans kj15;refine ⟨still_ref ((kH14.trans kk) _ _ ht), _, rfl, kk, pre ++ [x], rs, by simpa using hp, rfl, ?_⟩;dsimp only;rw [List.map_append, List.map_append]
      rfl
     ·intro ys _ J15 zi1;refine el13 zi1 fun v1n zr2 kj15 zq3 => ?_;clear zi1;subst zr2;refine el23 zq3 fun pre rs hp hrr hy => ?_;clear zq3;rw [text_nil hrr, List.append_nil] at hp;subst hp;rw [List.nil_append] at hy;subst hy;refine ⟨by rw [List.length_map, List.length_map]; exact ln1 90374164801 56854401 [_] [] hl, ?_⟩;intro b J16 kj16' hb lb;refine l_nil ?_;refine c_bi ?_;refine w_sorted hb (by rw [List.length_map]; exact ln1 94212116801 56854401 [_] [] hl) ?_;intro b2 J17 kj17 hb2 lb2;have kA := (kj15.trans kj16').trans kj17;have hal17 := kA _ _ hal
      have hsl2 : (srt (pre.map own)).length ≤ 8 := by rw [srt_len, List.length_map]; with_reducible assumption
      have halb : al ≠ b2 := by
       have h1 := lt_of_at hal;have h2 := kj15.len;have h3 := kj16'.len;exact fun hq => ln5 1200 1601601 1409681 1476801 1414521 1411361 [_,_,_,_,_] [] hq lb2 h1 h2 h3
      refine in23 _ _ (src_ref hb2) (by refine lm ?_; exact ln1 90374164801 56854401 [_] [] hsl2) ?_;refine zlp (ivXC7 kd t a f v1b v2b c v2f s1 bb J13 al pre b2) ?_ ?_ ?_
      ·intro d rr _ J zi1;refine el14 zi1 fun v1o zr2 kj hb2 zq3 => ?_;clear zi1;subst zr2;refine el23 zq3 fun p2 rs hp2 hrr2 hal => ?_;clear zq3;refine el23 (map_cons_inv hrr2) fun w rs zr1 zr2 zr3 => ?_;subst zr1;subst zr2;subst zr3;have hul := uq_len plain2 p2
       have hpl : p2.length ≤ 8 := by have := congrArg List.length hp2; simp at this; exact ln2 56854401 56854441 157517417859201 [_,_,_] [] hsl2 this
       refine l_step ?_;refine zbT (frXC26 (D.ref t) (D.ref kd) (D.ref a) (D.ref f) v1b v2b (D.str w) (D.ref c) v2f (D.ref s1) (D.ref bb) (D.ref al)) ?_;refine zsK ?_;refine zsI ?_;refine t_bool ?_;refine ztA ?_;refine ztC ?_;refine zN (.str w) ?_;refine zT ?_;refine zlC ?_;refine zS ?_;refine zlC ?_;refine zS ?_;refine l_nil ?_;refine k_nins ["Zyyy", "Zinh"] ?_
       have hno : (plain2 w = true ∧ (uq plain2 p2).any (· == w) = false → False) → uq plain2 (p2 ++ [w]) = uq plain2 p2 := by
        intro h;rw [uq_snoc];unfold uqStep;exact if_neg h
       cases h2 : ((["Zyyy", "Zinh"] : List Str).any (· == w)) with
       | true =>
        refine ite_no ?_;refine ite_no ?_;refine s_nil ?_;refine s_nil ?_;refine ⟨still_ref hb2, _, rfl, kj, hb2, p2 ++ [w], rs, by simpa using hp2, rfl, ?_⟩;rw [hno (by unfold plain2; rw [h2]; simp)];exact hal
       | false =>
        refine ite_yes ?_;refine ztA ?_;refine ztC ?_;refine zN (.str w) ?_;refine zN (.ref al) ?_;refine k_ninl hal ?_
        cases h3 : (uq plain2 p2).any (· == w) with
        | true =>
         refine ite_no ?_;refine ite_no ?_;refine s_nil ?_;refine s_nil ?_;refine ⟨still_ref hb2, _, rfl, kj, hb2, p2 ++ [w], rs, by simpa using hp2, rfl, ?_⟩;rw [hno (by rw [h3]; simp)];exact hal
        | false =>
         refine ite_yes ?_;refine a_nil_and ?_;refine ite_yes ?_;refine zsK ?_;refine zsX ?_;refine zM ?_;refine zN (.ref al) ?_;refine zmO hal ?_;refine zlC ?_;refine zN (.str w) ?_;refine l_nil ?_;refine m_append hal (by refine lm ?_; exact ln2 90374164801 1409601 56854441 [_,_] [] hul hpl) ?_;refine s_nil ?_;refine s_nil ?_;refine ⟨still_ref (at_set_ne halb hb2), _, rfl, kj.set lal, at_set_ne halb hb2, p2 ++ [w], rs, by simpa using hp2, rfl, ?_⟩;rw [at_set hal, uq_snoc];unfold uqStep;rw [if_pos ⟨by unfold plain2; rw [h2]; rfl, h3⟩, List.map_append]
         rfl
      ·intro _ J18 zi1;refine el14 zi1 fun v1p zr2 kj hb2 zq3 => ?_;clear zi1;subst zr2;refine el23 zq3 fun p2 rs hp2 hrr2 hal => ?_;clear zq3;rw [map_nil_inv hrr2, List.append_nil] at hp2;subst hp2;have kH18 := kH13.trans kj;rw [← owns_eq hts] at hal
       have hom : ∀ x ∈ srt (uq plain1 (pre.map own)), x ∈ wordsL := by
        intro x hx;have h1 := ((uq_props plain1 (pre.map own)).2.2 x).mp ((srt_permW _).mem_iff.mp hx);refine el12 (List.mem_map.mp h1.1) fun r hr zr1 => ?_;subst zr1;exact own_mem r (hts r hr)
       have hol : (srt (uq plain1 (pre.map own))).length ≤ 8 := by
        rw [srt_len];have := uq_len plain1 (pre.map own);rw [List.length_map] at this;exact ln2 56854401 56854441 1409601 [_,_] [] hl this
       refine el11 (repr_strs hom (by exact ln1 90116116801 56854401 [_] [] hol)) fun x3 hx3 => ?_;refine zsK ?_;refine zsR ?_;refine zC ?_;refine zK (.bi Bi.repr) ?_;refine zlC ?_;refine zK (.bi Bi.list) ?_;refine zlC ?_;refine zK (.fn 55) ?_;refine zlC ?_;refine zN (.ref t) ?_;refine zlC ?_;refine zN (.ref kd) ?_;refine l_nil ?_;refine (own_scripts (by exact ln0 601318238485434368128521 [_] []) (K.keep kH18) hts (kH18 _ _ ht) (by exact ln1 90115220801 56854401 [_] [] hl)).mono ?_;intro _ J19 zi1;refine el13 zi1 fun o zr2 kj19 ho => ?_;clear zi1;subst zr2;refine l_nil ?_;refine c_bi ?_;refine w_listl ho (by refine lm ?_; exact ln1 90374164801 56854401 [_] [] hol) ?_;intro o2 J20 kj20 ho2 lo2;refine l_nil ?_;refine c_bi ?_;refine hx3 _ _ _ ho2 ?_;refine zK (.bi Bi.repr) ?_;refine zlC ?_;refine zN (.ref al) ?_;refine l_nil ?_;refine c_bi ?_;have kk := kj19.trans kj20;refine hx3 _ _ _ (kk _ _ hal) ?_;refine k_eq (eq_txt _ _) ?_;rw [decide_eq_true rfl];exact ⟨rfl, kH18.trans kk⟩
      ·exact in14 _ rfl (kj14.trans kA) hb2 ⟨[], _, rfl, rfl, hal17⟩
     ·exact in13 _ rfl (.refl _) ⟨[], ts, rfl, rfl, rfl⟩
    ·exact in13 _ rfl (.refl _) ⟨[], sm, rfl, rfl, rfl⟩
   ·exact in33 _ _ _ rfl rfl ⟨[], tri ts, rfl, rfl, rfl⟩
  ·exact in23 _ _ rfl (.refl _) ⟨_, rfl⟩
 ·exact in33 _ _ _ rfl k1 ⟨[], tri ts, rfl, rfl, hf⟩
end Mine
end

-- XD
section
namespace Mine
abbrev po_draw_any (i c : Nat) (below t : Int) (H : AH) : D → AH → Prop := fun d H' => ∃ r : Int, d = .int r ∧ 0 ≤ r ∧ r < below ∧ KeepBut (fun j => j = i ∨ j = c) H H' ∧ Deck H' i c (t + 1)
theorem draw_any {m i c : Nat} {below t : Int} {H : AH} (hm : 30 ≤ m) (D : Deck H i c t) (h0 : 0 < below) (h1 : below < 1000) (ht : t < 100000) :
  Rx ((ev ge m).cl (.fn 272) [.ref i, .int below] H) (po_draw_any i c below t H) := by
 obtain ⟨n, rfl⟩ : ∃ n, m = n + 30 := ⟨m - 30, by exact Nat.le_antisymm (ln1 91828097601 102442902441 [_,_] [] (Nat.sub_add_cancel (ln1 56368561 56368561 [_] [] hm))) (ln1 90257302401 98449302401 [_,_] [] (Nat.sub_add_cancel (ln1 56368561 56368561 [_] [] hm)))⟩;exact draw_spec D h0 h1 ht
structure Known (q : Lot) : Prop where
 s : Short q
 w : ∀ l, q = some l → ∀ x ∈ l, x ∈ wordsL
theorem Known.comb {a b : Lot} (ha : Known a) (hb : Known b) : Known (comb a b) := ⟨comb_len ha.s hb.s, comb_w ha.w hb.w⟩
theorem Good.known {a : Lot} (h : Good a) : Known a := ⟨h.s, h.w⟩
theorem repr_lot {q : Lot} (h : Known q) : ∃ x : Str, ∀ (H : AH) (Q : D → AH → Prop), Q (.txt x) H → Rx (bcall H .repr [optL q]) Q := by
 refine repr_val (k := 90) ?_ (by decide)
 cases q with
 | none => exact okf_none
 | some l =>
  refine okf_tup (k := 8) ?_ ?_
  ·intro d hd;refine el12 (List.mem_map.mp hd) fun x hx zr1 => ?_;subst zr1;exact okf_str (words_s _ (h.w l rfl x hx))
  ·have := h.s l rfl;rw [List.length_map]; exact ln1 5767538025558401 56982409 [_] [] this
theorem Deck.keep {H H' : AH} {i c : Nat} {t : Int} (D : Deck H i c t) (k : Keep H H') : Deck H' i c t :=
 ⟨let ⟨m, a, b, h⟩ := D.dict; ⟨m, a, b, k _ _ h⟩, let ⟨cs, a, h⟩ := D.cells; ⟨cs, a, k _ _ h⟩, D.t0⟩
noncomputable abbrev OnDeck (i c : Nat) : Nat → Prop := fun j => j = i ∨ j = c
abbrev po_lots_right (i c : Nat) (tt : Int) (H : AH) : D → AH → Prop := fun d H' => d = .bool true ∧ KeepBut (OnDeck i c) H H' ∧ Deck H' i c (tt + 8)
noncomputable def frXD0 (x0 x1 x2 : Mine.D) : Loc := [("deck", some x0), ("text", some x1), ("kept", some x2), ("lots", none), ("code", none), ("turn", none), ("one", none), ("other", none)]
noncomputable def frXD1 (x0 x1 x2 x3 : Mine.D) : Loc := [("deck", some x0), ("text", some x1), ("kept", some x2), ("lots", some x3), ("code", none), ("turn", none), ("one", none), ("other", none)]
noncomputable def frXD2 (x0 x1 x2 x3 : Mine.D) (x4 : Option Mine.D) : Loc := [("deck", some x0), ("text", some x1), ("kept", some x2), ("lots", some x3), ("code", x4), ("turn", none), ("one", none), ("other", none)]
noncomputable abbrev ivXD0 (kd t i : Nat) (ts : List Row) (H : AH) (f : Nat) : List Mine.D → Loc → AH → Prop := fun zr0 zl zh => ∃ zv0, zl = (frXD2 (Mine.D.ref i) (Mine.D.ref t) (Mine.D.ref kd) (Mine.D.ref f) zv0 : Loc) ∧ (fun _ rr J => Keep H J ∧ ∃ (pre rs : List Row) (L : List Lot), pre ++ rs = ts ∧ rr = textD rs ∧ J[f]? = some (.list (L.map optL)) ∧ L.length = pre.length + 4 ∧ ∀ q ∈ L, Known q) zv0 zr0 zh
noncomputable def frXD3 (x0 x1 x2 x3 x4 : Mine.D) : Loc := [("deck", some x0), ("text", some x1), ("kept", some x2), ("lots", some x3), ("code", some x4), ("turn", none), ("one", none), ("other", none)]
noncomputable def frXD4 (x0 x1 x2 x3 : Mine.D) (x4 x5 x6 x7 : Option Mine.D) : Loc := [("deck", some x0), ("text", some x1), ("kept", some x2), ("lots", some x3), ("code", x4), ("turn", x5), ("one", x6), ("other", x7)]
noncomputable abbrev ivXD1 (kd t i c : Nat) (tt : Int) (f : Nat) (J : AH) (v1b : Option Mine.D) : List Mine.D → Loc → AH → Prop := fun zr0 zl zh => ∃ zv0 zv1 zv2, zl = (frXD4 (Mine.D.ref i) (Mine.D.ref t) (Mine.D.ref kd) (Mine.D.ref f) v1b zv0 zv1 zv2 : Loc) ∧ (fun _ _ _ rr J2 => KeepBut (OnDeck i c) J J2 ∧ ∃ u, Deck J2 i c u ∧ u + 2 * rr.length = tt + 8) zv0 zv1 zv2 zr0 zh
noncomputable def frXD5 (x0 x1 x2 x3 : Mine.D) (x4 : Option Mine.D) (x5 : Mine.D) (x6 x7 : Option Mine.D) : Loc := [("deck", some x0), ("text", some x1), ("kept", some x2), ("lots", some x3), ("code", x4), ("turn", some x5), ("one", x6), ("other", x7)]
noncomputable def frXD6 (x0 x1 x2 x3 : Mine.D) (x4 : Option Mine.D) (x5 x6 x7 : Mine.D) : Loc := [("deck", some x0), ("text", some x1), ("kept", some x2), ("lots", some x3), ("code", x4), ("turn", some x5), ("one", some x6), ("other", some x7)]
theorem lots_right {m kd t i c : Nat} {ts : List Row} {tt : Int} {H : AH} (hm : 130 ≤ m) (K : Kept H kd ts) (hts : ∀ r ∈ ts, r ∈ rowsL) (ht : H[t]? = some (.list (textD ts))) (hl : ts.length ≤ 8) (D : Deck H i c tt) (htt : tt < 90000) :
  Rx ((ev ge m).cl (.fn 332) [.ref i, .ref t, .ref kd] H) (po_lots_right i c tt H) := by
 obtain ⟨n, rfl⟩ : ∃ n, m = n + 130 := ⟨m - 130, by exact Nat.le_antisymm (ln1 146800973633601 163905544340841 [_,_] [] (Nat.sub_add_cancel (ln1 90112208521 90112208521 [_] [] hm))) (ln1 144408584340801 157515784340801 [_,_] [] (Nat.sub_add_cancel (ln1 90112208521 90112208521 [_] [] hm)))⟩
 have hi : i < H.length := by obtain ⟨_, _, _, h⟩ := D.dict; exact lt_of_at h
 have hc : c < H.length := by obtain ⟨_, _, h⟩ := D.cells; exact lt_of_at h
 refine zcF (frXD0 (Mine.D.ref i) (Mine.D.ref t) (Mine.D.ref kd)) ?_;refine zsK ?_;refine zsN ?_;refine zL ?_;refine zlC ?_;refine zO ?_;refine zlC ?_;refine zT ?_;refine l_nil ?_;refine zlC ?_;refine zT ?_;refine zlC ?_;refine zS ?_;refine l_nil ?_;refine zlC ?_;refine zT ?_;refine zlC ?_;refine zS ?_;refine zlC ?_;refine zS ?_;refine zlC ?_;refine zS ?_;refine l_nil ?_;refine l_nil ?_;refine ⟨by simp [maxLen], ?_⟩;intro f H1 k1 hf lf;refine zsL (frXD1 (Mine.D.ref i) (Mine.D.ref t) (Mine.D.ref kd) (Mine.D.ref f)) ?_;refine zsK ?_;refine zsF ?_;refine zN (.ref t) ?_;refine in23 _ _ (src_ref (k1 _ _ ht)) (by simp [maxLen]; exact ln1 90374164801 56854401 [_] [] hl) ?_;refine zlp (ivXD0 kd t i ts H f) ?_ ?_ ?_
 ·intro d rr _ J zi1;refine el13 zi1 fun v1a zr2 k zq3 => ?_;clear zi1;subst zr2;refine el35 zq3 fun pre rs L hp hrr hf hL hk => ?_;clear zq3;refine el23 (text_cons hrr) fun x rs zr1 zr2 zr3 => ?_;subst zr1;subst zr2;subst zr3
  have hxt : x ∈ ts := by rw [← hp]; exact List.mem_append_right _ List.mem_cons_self
  have hpl : pre.length ≤ 8 := by have := congrArg List.length hp; simp at this; exact ln2 56854401 56854441 157517417859201 [_,_,_] [] hl this
  have hx := hts x hxt;have G := lot_good hx;refine el11 (repr_lot G.known) fun x1 hx1 => ?_;refine l_step ?_;refine zbT (frXD3 (Mine.D.ref i) (Mine.D.ref t) (Mine.D.ref kd) (Mine.D.ref f) (Mine.D.int x.fst)) ?_;refine zsK ?_;refine zsI ?_;refine ztC ?_;refine zK (.bi Bi.repr) ?_;refine zlC ?_;refine zK (.fn 29) ?_;refine zlC ?_;refine zN (.int x.fst) ?_;refine zlC ?_;refine zN (.ref kd) ?_;refine l_nil ?_;refine (script_set (by exact ln0 601318238473965568128521 [_] []) (K.keep k) hx hxt).mono ?_;intro _ J1 zi1;refine el02 zi1 fun zr2 kj1 => ?_;clear zi1;subst zr2;refine l_nil ?_;refine c_bi ?_;refine hx1 _ _ ?_;refine zK (.bi Bi.repr) ?_;refine zlC ?_;refine zK (.fn 289) ?_;refine zlC ?_;refine zN (.int x.fst) ?_;refine l_nil ?_;refine (law_lot (by exact ln0 601318238473965568080521 [_] []) hx).mono ?_;intro _ J2 zi1;refine el02 zi1 fun zr2 kj2 => ?_;clear zi1;subst zr2;refine l_nil ?_;refine c_bi ?_;refine hx1 _ _ ?_;refine k_ne (eq_txt _ _) ?_;rw [decide_eq_true rfl];refine ite_no ?_;refine s_nil ?_;refine zsK ?_;refine zsX ?_;refine zM ?_;refine zN (.ref f) ?_;have k12 := kj1.trans kj2;refine zmO (k12 _ _ hf) ?_;refine zlC ?_;refine zK (.fn 289) ?_;refine zlC ?_;refine zN (.int x.fst) ?_;refine l_nil ?_;refine (law_lot (by exact ln0 601318238474129408080521 [_] []) hx).mono ?_;intro _ J3 zi1;refine el02 zi1 fun zr2 kj3 => ?_;clear zi1;subst zr2;have k13 := k12.trans kj3;refine l_nil ?_;refine m_append (k13 _ _ hf) (by refine lm ?_; exact ln2 90374164801 99953537601 56854441 [_,_] [] hL hpl) ?_;refine s_nil ?_
  have hft : f ≠ t := by have := lt_of_at ht; exact fun hq => ln3 1200 1537601 1408081 1475241 [_,_,_] [] hq lf this
  refine ⟨still_ref (at_set_ne hft ((k.trans k13) _ _ ht)), _, rfl, (k.trans k13).set lf, pre ++ [x], rs, L ++ [lot x], by simpa using hp, rfl, ?_, by simp [hL], ?_⟩
  ·rw [at_set (k13 _ _ hf), List.map_append]; rfl
  ·intro q hq;rcases List.mem_append.mp hq with hq | hq
   ·exact hk q hq
   ·rw [List.mem_singleton.mp hq]; exact G.known
 ·intro _ J zi1;refine el13 zi1 fun v1b zr2 k zq3 => ?_;clear zi1;subst zr2;refine el35 zq3 fun pre rs L hp hrr hf hL hk => ?_;clear zq3;rw [text_nil hrr, List.append_nil] at hp;subst hp;refine zsK ?_;refine zsF ?_;refine zK (.bi Bi.range) ?_;refine zlC ?_;refine zI ?_;refine l_nil ?_;refine c_bi ?_;refine in22 _ _ (by unfold bcall; rfl) ?_;refine in23 _ none (by unfold src; rfl) (by simp [maxLen]) ?_;refine zlp (ivXD1 kd t i c tt f J v1b) ?_ ?_ ?_
  ·intro d rr _ J2 zi1;refine el33 zi1 fun v1c v2c v3c zr2 kb zq3 => ?_;clear zi1;subst zr2;refine el12 zq3 fun u D2 hu => ?_;clear zq3
   have hu2 : u + 2 * (rr.length + 1) = tt + 8 := by rw [List.length_cons] at hu; push_cast at hu; exact hu
   have hfi : ¬ OnDeck i c f := by rintro (rfl | rfl) <;> omega
   have hf2 := kb _ _ hfi hf;refine l_step ?_;refine zbT (frXD5 (Mine.D.ref i) (Mine.D.ref t) (Mine.D.ref kd) (Mine.D.ref f) v1b d v2c v3c) ?_;refine zsK ?_;refine zsT ?_;refine zT ?_;refine zlC ?_;refine zX ?_;refine zN (.ref f) ?_;refine zK (.fn 272) ?_;refine zlC ?_;refine zN (.ref i) ?_;refine zlC ?_;refine zK (.bi Bi.len) ?_;refine zlC ?_;refine zN (.ref f) ?_;refine l_nil ?_;refine c_bi ?_;refine w_len hf2 (by refine lm ?_; exact ln2 90374164801 99953537601 56854441 [_,_] [] hL hl) ?_;refine l_nil ?_;rw [List.length_map];refine (draw_any (by exact ln0 375823899046228528561 [_] []) D2 (by exact ln1 2813440561 104049537601 [_,_] [] hL) (by exact ln2 4426240862401 99953537601 56854441 [_,_] [] hL hl) (by exact ln2 176953600024321 176952960024361 476560552183705750721 [_] [_,_] htt hu)).mono ?_;intro _ J3 zi1;refine el15 zi1 fun r1 zr2 r10 r11 kb3 D3 => ?_;clear zi1;subst zr2;have hf3 := kb3 _ _ hfi hf2;have b1 : r1.toNat < L.length := (Int.toNat_lt r10).2 (by assumption);have g1 : L[r1.toNat]? = some L[r1.toNat] := List.getElem?_eq_getElem b1;refine g_list (r := optL L[r1.toNat]) hf3 (by refine lm ?_; exact ln2 90374164801 99953537601 56854441 [_,_] [] hL hl) (nth_of r10 (by rw [List.getElem?_map, g1]; rfl)) ?_;refine zlC ?_;refine zX ?_;refine zN (.ref f) ?_;refine zK (.fn 272) ?_;refine zlC ?_;refine zN (.ref i) ?_;refine zlC ?_;refine zK (.bi Bi.len) ?_;refine zlC ?_;refine zN (.ref f) ?_;refine l_nil ?_;refine c_bi ?_;refine w_len hf3 (by refine lm ?_; exact ln2 90374164801 99953537601 56854441 [_,_] [] hL hl) ?_;refine l_nil ?_;rw [List.length_map];refine (draw_any (by exact ln0 375823899046228528561 [_] []) D3 (by exact ln1 2813440561 104049537601 [_,_] [] hL) (by exact ln2 4426240862401 99953537601 56854441 [_,_] [] hL hl) (by exact ln2 11325030401577046721 176952960024361 476560552183705750721 [_] [_,_] htt hu)).mono ?_;intro _ J4 zi1;refine el15 zi1 fun r2 zr2 r20 r21 kb4 D4 => ?_;clear zi1;subst zr2;have hf4 := kb4 _ _ hfi hf3;have b2 : r2.toNat < L.length := (Int.toNat_lt r20).2 (by assumption);have g2 : L[r2.toNat]? = some L[r2.toNat] := List.getElem?_eq_getElem b2;refine g_list (r := optL L[r2.toNat]) hf4 (by refine lm ?_; exact ln2 90374164801 99953537601 56854441 [_,_] [] hL hl) (nth_of r20 (by rw [List.getElem?_map, g2]; rfl)) ?_;have q1 := hk L[r1.toNat] (List.getElem_mem _);have q2 := hk L[r2.toNat] (List.getElem_mem _);generalize L[r1.toNat] = A at *;generalize L[r2.toNat] = B at *;refine el11 (repr_lot (q1.comb q2)) fun x1 hx1 => ?_;refine l_nil ?_;refine zbT (frXD6 (Mine.D.ref i) (Mine.D.ref t) (Mine.D.ref kd) (Mine.D.ref f) v1b d (optL A) (optL B)) ?_;refine zsK ?_;refine zsI ?_;refine ztC ?_;refine zK (.bi Bi.repr) ?_;refine zlC ?_;refine zK (.fn 48) ?_;refine zlC ?_;refine zN (optL A) ?_;refine zlC ?_;refine zN (optL B) ?_;refine l_nil ?_;refine (scripts_met (by exact ln0 375823899046228528561 [_] []) q1.s q2.s).mono ?_;intro _ J5 zi1;refine el02 zi1 fun zr2 kj5 => ?_;clear zi1;subst zr2;refine l_nil ?_;refine c_bi ?_;refine hx1 _ _ ?_;refine zK (.bi Bi.repr) ?_;refine zlC ?_;refine zK (.fn 294) ?_;refine zlC ?_;refine zN (optL A) ?_;refine zlC ?_;refine zN (optL B) ?_;refine l_nil ?_;refine (law_common (by exact ln0 375823899046228528561 [_] []) q1.s q2.s).mono ?_;intro _ J6 zi1;refine el02 zi1 fun zr2 kj6 => ?_;clear zi1;subst zr2;refine l_nil ?_;refine c_bi ?_;refine hx1 _ _ ?_;refine k_ne (eq_txt _ _) ?_;rw [decide_eq_true rfl];refine ite_no ?_;refine s_nil ?_;refine s_nil ?_;refine ⟨rfl, _, _, _, rfl, ((kb.trans kb3).trans kb4).trans (kj5.trans kj6).but, _, D4.keep (kj5.trans kj6), by exact Int.le_antisymm (ln1 1814553068272458756265410646721 30499875339737720729750721 [_] [_,_] hu2) (ln1 1815073581968039451255747094721 31573616744307320729750761 [_] [_,_] hu2)⟩
  ·intro _ J2 zi1;refine el33 zi1 fun v1d v2d v3d zr2 kb zq3 => ?_;clear zi1;subst zr2;refine el12 zq3 fun u D2 hu => ?_;clear zq3;refine zsK ?_;refine zsR ?_;refine zB ?_;refine in03 rfl (KeepBut.trans k.but kb) ?_
   have : u = tt + 8 := by simpa using hu
   rw [← this];exact D2
  ·refine in33 _ _ _ rfl (fun O O O e => e) ⟨tt, D.keep k, ?_⟩;simp
 ·refine in13 _ rfl k1 ⟨[], ts, [none, some [], some ["Latn"], some ["Cyrl", "Deva", "Latn"]], rfl, rfl, hf, rfl, ?_⟩
  have : ∀ q ∈ ([none, some [], some ["Latn"], some ["Cyrl", "Deva", "Latn"]] : List Lot), (match q with | none => 0 | some l => l.length) ≤ 10 ∧ ∀ x ∈ (match q with | none => [] | some l => l), x ∈ wordsL := by decide +kernel
  intro q hq;have h := this q hq;refine ⟨fun l e => ?_, fun l e => ?_⟩
  ·have := h.1; rw [e] at this; exact this
  ·have := h.2; rw [e] at this; exact this
end Mine
end

-- XE
section
namespace Mine
noncomputable abbrev Lv := Option Int
noncomputable def lvD : Lv → D
 | none => .none
 | some i => .int i
noncomputable def lvAt (lv : List Lv) (p : Nat) : Lv := (lv[p]?).getD none
noncomputable abbrev pieceD (h p : Nat) (w : Str) (l : Lv) : D := .tup [.int h, .int p, .str w, lvD l]
noncomputable def pst (lv : List Lv) (w : Str) (s : Nat) : Nat → List D × Nat
 | 0 => ([], s)
 | k + 1 => if lvAt lv (s + k + 1) = lvAt lv (pst lv w s k).2 then pst lv w s k else ((pst lv w s k).1 ++ [pieceD (pst lv w s k).2 (s + k + 1) w (lvAt lv (pst lv w s k).2)], s + k + 1)
theorem sub3 {s e : Nat} {P : Prop} (h : s < e ∧ P) : e + 1 - (s + 1) = e - s - 1 + 1 := (Nat.add_sub_add_right e 1 s).trans (Nat.sub_add_cancel (Nat.sub_pos_of_lt h.1)).symm
theorem pos_of {s e k r : Nat} {P : Prop} (h : s < e ∧ P) (h1 : k + r + 1 = e - s) (h2 : s + k + 1 ≠ e) : ∃ q, r = q + 1 := by
 cases r with
 | succ q => exact ⟨q, rfl⟩
 | zero => exact absurd (by rw [Nat.add_assoc, show k + 1 = e - s from h1]; exact Nat.add_sub_of_le (Nat.le_of_lt h.1)) h2
theorem in_len {s e j r n : Nat} {P : Prop} (h : s < e ∧ e ≤ n ∧ P) (h1 : j + 1 + (r + 1) = e - s) : s + j < n :=
 Nat.lt_of_lt_of_le (Nat.add_lt_of_lt_sub' (by rw [← h1, Nat.add_assoc]; exact Nat.lt_add_of_pos_right (Nat.succ_pos _))) h.2.1
set_option tactic.hygienic true in
theorem pst_at (lv : List Lv) (w : Str) (s : Nat) : ∀ k, lvAt lv (pst lv w s k).2 = lvAt lv (s + k) ∧ s ≤ (pst lv w s k).2 ∧ (pst lv w s k).2 ≤ s + k ∧ (pst lv w s k).1.length ≤ k
 | 0 => ⟨rfl, Nat.le_refl _, Nat.le_refl _, Nat.le_refl _⟩
 | k + 1 => by
  have ih := pst_at lv w s k;unfold pst
  split
  ·rename_i h;exact in04 h.symm ih.2.1 (by exact ln1 146866314369601 2293889601 [_,_,_] [] ih.2.2.1) (by exact ln1 91753857601 1409601 [_,_] [] ih.2.2.2)
  ·exact in04 rfl (by dsimp only; exact ln0 146806210624001 [_,_] []) (Nat.le_refl _) (by simp; exact ln1 1409601 1409601 [_,_] [] ih.2.2.2)
noncomputable def rowP (lv : List Lv) (x : Tri) : List D := (pst lv x.2.2 x.1 (x.2.1 - x.1 - 1)).1 ++ [pieceD (pst lv x.2.2 x.1 (x.2.1 - x.1 - 1)).2 x.2.1 x.2.2 (lvAt lv (pst lv x.2.2 x.1 (x.2.1 - x.1 - 1)).2)]
noncomputable def allP (lv : List Lv) (R : List Tri) : List D := R.flatMap (rowP lv)
theorem allP_snoc (lv : List Lv) (R : List Tri) (x : Tri) : allP lv (R ++ [x]) = allP lv R ++ rowP lv x := by unfold allP; simp
noncomputable def RowsOk (R : List Tri) (N : Nat) : Prop := ∀ x ∈ R, x.1 < x.2.1 ∧ x.2.1 ≤ N ∧ x.2.2 ∈ wordsL
theorem rowP_len {lv : List Lv} {x : Tri} {N : Nat} (h : x.1 < x.2.1 ∧ x.2.1 ≤ N) : (rowP lv x).length ≤ N := by
 have := (pst_at lv x.2.2 x.1 (x.2.1 - x.1 - 1)).2.2.2;unfold rowP;rw [List.length_append, List.length_singleton]
 omega
theorem allP_len {lv : List Lv} {N : Nat} : ∀ {R : List Tri}, RowsOk R N → (allP lv R).length ≤ N * R.length
 | [], _ => by simp [allP]
 | x :: R, h => by
  have h1 := rowP_len (lv := lv) ⟨(h x List.mem_cons_self).1, (h x List.mem_cons_self).2.1⟩;have h2 := allP_len (lv := lv) (R := R) (N := N) fun y hy => h y (List.mem_cons_of_mem _ hy);unfold allP at h2 ⊢;rw [List.flatMap_cons, List.length_append, List.length_cons, Nat.mul_succ];exact ln2 3670329345601 1412801 1411241 [_,_,_,_] [] h1 h2
noncomputable def rngFrom (s k : Nat) : List D := (List.range' s k).map fun j : Nat => D.int j
theorem rng_from (s k : Nat) : ((List.range k).map fun j : Nat => D.int ((s : Int) + (j : Int))) = rngFrom s k := by
 unfold rngFrom;rw [List.range'_eq_map_range, List.map_map];refine List.map_congr_left fun j O => ?_
 show D.int ((s : Int) + (j : Int)) = D.int ((s + j : Nat) : Int)
 rw [Int.natCast_add]
theorem rng_cons {d : D} {rr : List D} {s k : Nat} (h : d :: rr = rngFrom s k) : ∃ k', k = k' + 1 ∧ d = .int s ∧ rr = rngFrom (s + 1) k' := by
 cases k with
 | zero => cases h
 | succ k =>
  unfold rngFrom at h;rw [List.range'_succ, List.map_cons] at h
  injection h with h1 h2
  exact in13 k rfl h1 h2
theorem rng_nil {s k : Nat} (h : [] = rngFrom s k) : k = 0 := by
 have := congrArg List.length h;simpa [rngFrom] using this.symm
theorem rngFrom_len (s k : Nat) : (rngFrom s k).length = k := by simp [rngFrom]
theorem w_range2 {H : AH} {a b : Int} {Q : D → AH → Prop} (h1 : -4096 ≤ a) (h2 : a ≤ 4096) (h3 : -4096 ≤ b) (h4 : b ≤ 4096) (q : Q (.rng a b) H) : Rx (bcall H .range [.int a, .int b]) Q := by
 have hc : (decide (-4096 ≤ a) && decide (a ≤ maxLen) && decide (-4096 ≤ b) && decide (b ≤ maxLen)) = true := by
  have e : ((maxLen : Nat) : Int) = 4096 := rfl;rw [e]; simp only [Bool.and_eq_true, decide_eq_true_eq]; exact ⟨⟨⟨ln1 4294457754121 4294457754121 [] [_] h1, ln1 106758165121 106758165121 [] [_] h2⟩, ln1 4294457754121 4294457754121 [] [_] h3⟩, ln1 106758165121 106758165121 [] [_] h4⟩
 exact in22 _ _ (by unfold bcall; dsimp only [twoI]; rw [if_pos hc]) q
theorem w_range1 {H : AH} {b : Int} {Q : D → AH → Prop} (h3 : 0 ≤ b) (h4 : b ≤ 4096) (q : Q (.rng 0 b) H) : Rx (bcall H .range [.int b]) Q := by
 have hc : (decide (0 ≤ b) && decide (b ≤ maxLen)) = true := by
  have e : ((maxLen : Nat) : Int) = 4096 := rfl;rw [e]; simp only [Bool.and_eq_true, decide_eq_true_eq]; exact ⟨ln1 67072561 67072561 [] [_] h3, ln1 106758165121 106758165121 [] [_] h4⟩
 exact in22 _ _ (by unfold bcall; dsimp only [twoI]; rw [if_pos hc]) q
theorem src_rng {H : AH} {a b : Int} (A B : Nat) (ha : a = A) (hb : b = B) (h1 : A ≤ 4096) (h2 : B ≤ 4096) : src H (.rng a b) = some (rngFrom A (B - A), none) := by
 subst ha hb
 have hc : (decide (-4096 ≤ (A : Int)) && decide ((A : Int) ≤ 4096) && decide (-4096 ≤ (B : Int)) && decide ((B : Int) ≤ 4096)) = true := by
  simp only [Bool.and_eq_true, decide_eq_true_eq]; exact ⟨⟨⟨ln0 173508409754121 [_] [], ln1 4270326622401 90374164801 [_] [] h1⟩, ln0 173508409754121 [_] []⟩, ln1 4270326622401 90374164801 [_] [] h2⟩
 unfold src;dsimp only;rw [if_pos hc];have e : ((B : Int) - (A : Int)).toNat = B - A := Int.toNat_sub ..;rw [e, rng_from]
noncomputable def lvP : Lv → PyData
 | none => .none
 | some i => .int i
theorem py_lv (H : AH) (n : Nat) (l : Lv) : py H n (lvD l) = some (lvP l) := by cases l <;> cases n <;> rfl
theorem eqv_lv (a b : Lv) : PyData.eqv (lvP a) (lvP b) = decide (a = b) := by
 cases a with
 | none => cases b with
  | none => rfl
  | some j => rfl
 | some i => cases b with
  | none => rfl
  | some j =>
   show PyData.eqv (.int i) (.int j) = _
   rw [eqv_int]
   by_cases h : i = j <;> simp [h]
theorem eq_lv (H : AH) (a b : Lv) : isEq H (lvD a) (lvD b) = some (decide (a = b)) := by
 have h : isEq H (lvD a) (lvD b) = match py H 3 (lvD a), py H 3 (lvD b) with
  | some p, some q => some (PyData.eqv p q)
  | _, _ => none := by cases a <;> cases b <;> rfl
 rw [h, py_lv, py_lv];dsimp only;rw [eqv_lv]
theorem lv_get {lv : List Lv} {p : Nat} (h : p < lv.length) : (lv.map lvD)[p]? = some (lvD (lvAt lv p)) := by
 unfold lvAt;rw [List.getElem?_map, List.getElem?_eq_getElem h]
 rfl
abbrev po_script_items (R : List Tri) (lv : List Lv) (H : AH) : D → AH → Prop := fun d H' => ∃ b, d = .ref b ∧ Keep H H' ∧ H'[b]? = some (.list (allP lv R)) ∧ H.length ≤ b
noncomputable def frXE0 (x0 x1 : Mine.D) : Loc := [("told", some x0), ("levels", some x1), ("found", none), ("start", none), ("end", none), ("name", none), ("here", none), ("place", none)]
noncomputable def frXE1 (x0 x1 x2 : Mine.D) : Loc := [("told", some x0), ("levels", some x1), ("found", some x2), ("start", none), ("end", none), ("name", none), ("here", none), ("place", none)]
noncomputable def frXE2 (x0 x1 x2 : Mine.D) (x3 x4 x5 x6 x7 : Option Mine.D) : Loc := [("told", some x0), ("levels", some x1), ("found", some x2), ("start", x3), ("end", x4), ("name", x5), ("here", x6), ("place", x7)]
noncomputable abbrev ivXE0 (a v : Nat) (R : List Tri) (lv : List Mine.Lv) (H : AH) (f : Nat) : List Mine.D → Loc → AH → Prop := fun zr0 zl zh => ∃ zv0 zv1 zv2 zv3 zv4, zl = (frXE2 (Mine.D.ref a) (Mine.D.ref v) (Mine.D.ref f) zv0 zv1 zv2 zv3 zv4 : Loc) ∧ (fun _ _ _ _ _ rr J => Keep H J ∧ ∃ pre rs, pre ++ rs = R ∧ rr = rs.map triD ∧ J[f]? = some (.list (allP lv pre))) zv0 zv1 zv2 zv3 zv4 zr0 zh
noncomputable def frXE3 (x0 x1 x2 x3 x4 x5 : Mine.D) (x6 x7 : Option Mine.D) : Loc := [("told", some x0), ("levels", some x1), ("found", some x2), ("start", some x3), ("end", some x4), ("name", some x5), ("here", x6), ("place", x7)]
noncomputable def frXE4 (x0 x1 x2 x3 x4 x5 x6 : Mine.D) (x7 : Option Mine.D) : Loc := [("told", some x0), ("levels", some x1), ("found", some x2), ("start", some x3), ("end", some x4), ("name", some x5), ("here", some x6), ("place", x7)]
noncomputable abbrev ivXE1 (a v : Nat) (lv : List Mine.Lv) (H : AH) (f : Nat) (pre : List Tri) (s e : Nat) (w : Str) : List Mine.D → Loc → AH → Prop := fun zr0 zl zh => ∃ zv0 zv1, zl = (frXE3 (Mine.D.ref a) (Mine.D.ref v) (Mine.D.ref f) (Mine.D.int (↑s : Int)) (Mine.D.int (↑e : Int)) (Mine.D.str w) zv1 zv0 : Loc) ∧ (fun _ h rr J => Keep H J ∧ ((∃ k r, k + r + 1 = e - s ∧ rr = rngFrom (s + k + 1) (r + 1) ∧ J[f]? = some (.list (allP lv pre ++ (pst lv w s k).1)) ∧ h = some (.int (pst lv w s k).2)) ∨ (rr = [] ∧ J[f]? = some (.list (allP lv pre ++ rowP lv (s, e, w)))))) zv0 zv1 zr0 zh
noncomputable def frXE5 (x0 x1 x2 x3 x4 x5 x6 x7 : Mine.D) : Loc := [("told", some x0), ("levels", some x1), ("found", some x2), ("start", some x3), ("end", some x4), ("name", some x5), ("here", some x6), ("place", some x7)]
set_option tactic.hygienic true in
theorem script_items {m a v : Nat} {R : List Tri} {lv : List Lv} {H : AH} (hm : 50 ≤ m) (ha : H[a]? = some (.list (R.map triD))) (hv : H[v]? = some (.list (lv.map lvD))) (hR : RowsOk R lv.length) (hRl : R.length ≤ 8) (hl : lv.length ≤ 8) :
  Rx ((ev ge m).cl (.fn 112) [.ref a, .ref v] H) (po_script_items R lv H) := by
 obtain ⟨n, rfl⟩ : ∃ n, m = n + 50 := ⟨m - 50, by exact Nat.le_antisymm (ln1 146800768833601 163905539220841 [_,_] [] (Nat.sub_add_cancel (ln1 90112080521 90112080521 [_] [] hm))) (ln1 144408579220801 157515779220801 [_,_] [] (Nat.sub_add_cancel (ln1 90112080521 90112080521 [_] [] hm)))⟩;refine zcF (frXE0 (Mine.D.ref a) (Mine.D.ref v)) ?_;refine zsK ?_;refine zsN ?_;refine zL ?_;refine l_nil ?_;refine ⟨by simp [maxLen], ?_⟩;intro f H1 k1 hf lf;refine zsL (frXE1 (Mine.D.ref a) (Mine.D.ref v) (Mine.D.ref f)) ?_;refine zsK ?_;refine zsF ?_;refine zN (.ref a) ?_
 have hvl : (lv.map lvD).length ≤ maxLen := by refine lm ?_; exact ln1 90374164801 56854401 [_] [] hl
 have hfa : f ≠ a := by have := lt_of_at ha; exact fun hq => ln3 1200 1537601 1408081 1475241 [_,_,_] [] hq lf this
 have hfv : f ≠ v := by have := lt_of_at hv; exact fun hq => ln3 1200 1537601 1408081 1475241 [_,_,_] [] hq lf this
 refine in23 _ _ (src_ref (k1 _ _ ha)) (by refine lm ?_; exact ln1 90374164801 56854401 [_] [] hRl) ?_;refine zlp (ivXE0 a v R lv H f) ?_ ?_ ?_
 ·intro d rr _ J zi1;refine el53 zi1 fun v1a v2a v3a v4a v5a zr2 k zq3 => ?_;clear zi1;subst zr2;refine el23 zq3 fun pre rs hp hrr hf => ?_;clear zq3;refine el23 (map_cons_inv hrr) fun x rs zr1 zr2 zr3 => ?_;subst zr1;subst zr2;subst zr3;have hx := hR x (by rw [← hp]; exact List.mem_append_right _ List.mem_cons_self)
  have hpl : pre.length ≤ 8 := by have := congrArg List.length hp; simp at this; exact ln2 56854401 56854441 157517417859201 [_,_,_] [] hRl this
  have hal : (allP lv pre).length ≤ 64 := by
   have h1 := allP_len (lv := lv) (R := pre) (N := lv.length) fun y hy => hR y (by rw [← hp]; exact List.mem_append_left _ hy);have h2 := Nat.mul_le_mul hl hpl;exact ln2 90116116801 1409601 90116116841 [_,_] [] h1 h2
  obtain ⟨s, e, w⟩ := x;dsimp only at hx;refine l_step ?_;refine zbT (frXE3 (Mine.D.ref a) (Mine.D.ref v) (Mine.D.ref f) (Mine.D.int (↑(s, e, w).fst : Int)) (Mine.D.int (↑(s, e, w).snd.fst : Int)) (Mine.D.str (s, e, w).snd.snd) v4a v5a) ?_;refine zsK ?_;refine zsN ?_;refine zN (.int (↑(s, e, w).fst : Int)) ?_;refine zsL (frXE4 (Mine.D.ref a) (Mine.D.ref v) (Mine.D.ref f) (Mine.D.int (↑(s, e, w).fst : Int)) (Mine.D.int (↑(s, e, w).snd.fst : Int)) (Mine.D.str (s, e, w).snd.snd) (Mine.D.int (↑(s, e, w).fst : Int)) v5a) ?_;refine zsK ?_;refine zsF ?_;refine zK (.bi Bi.range) ?_;refine zlC ?_;refine zP ?_;refine zN (.int (↑(s, e, w).fst : Int)) ?_;refine zI ?_;refine b_add ?_;refine zlC ?_;refine zP ?_;refine zN (.int (↑(s, e, w).snd.fst : Int)) ?_;refine zI ?_;refine b_add ?_;refine l_nil ?_;refine c_bi ?_;dsimp only;refine w_range2 (by exact ln0 11073319569209754121 [_] []) (by exact ln3 273300903529886401 56854441 1475201 1409681 [_,_,_] [] hl hx.1 hx.2.1) (by exact ln0 11073319569209754121 [_] []) (by exact ln2 273300903529886401 56854441 1409601 [_,_] [] hl hx.2.1) ?_;refine in23 _ _ (src_rng (s + 1) (e + 1) (by exact Int.le_antisymm (ln0 11108622993001886401 [_] []) (ln0 11073319569346646401 [_] [])) (by exact Int.le_antisymm (ln0 11108622993001886401 [_] []) (ln0 11073319569346646401 [_] [])) (by exact ln3 5783946588246401 56854441 1475201 1409681 [_,_,_] [] hl hx.1 hx.2.1) (by exact ln2 5783946588246401 56854441 1409601 [_,_] [] hl hx.2.1)) (by rw [rngFrom_len]; exact ln3 90374164801 10234456049257857601 56854521 1412881 [_,_,_,_] [] (Nat.sub_add_cancel (ln1 5872246927446401 1473601 [_,_] [] hx.1)) hl hx.2.1) ?_;have hk : e + 1 - (s + 1) = e - s - 1 + 1 := sub3 (by assumption);rw [hk];refine zlp (ivXE1 a v lv H f pre s e w) ?_ ?_ ?_
  ·rintro d rr _ J ⟨v1b, h, rfl, kj, ⟨k', r, hkr, hrr, hf, rfl⟩ | ⟨hrr, -⟩⟩
   ·refine el13 (rng_cons hrr) fun r' hr' zr1 zr2 => ?_;subst zr1;subst zr2
    obtain rfl : r' = r := by exact Nat.le_antisymm (ln1 1409601 6658678825046441 [_,_] [] hr') (ln1 1409601 6396534927446401 [_,_] [] hr')
    have hP := pst_at lv w s k'
    have hlen : (allP lv pre ++ (pst lv w s k').1).length ≤ maxLen := by rw [List.length_append]; exact ln6 144598664705601 2468868881 56854601 90116116801 1416161 157679755275441 1417641 [_,_,_,_,_,_,_,_] [] (Nat.sub_add_cancel (ln1 1409601 1473601 [_,_] [] hx.1)) hl hal hx.2.1 hkr hP.2.2.2
    have hvJ := kj _ _ hv;refine l_step ?_;refine zbT (frXE5 (Mine.D.ref a) (Mine.D.ref v) (Mine.D.ref f) (Mine.D.int (↑s : Int)) (Mine.D.int (↑e : Int)) (Mine.D.str w) (Mine.D.int (↑(pst lv w s k').snd : Int)) (Mine.D.int (↑(s + k' + 1) : Int))) ?_;refine zsK ?_;refine zsI ?_;refine t_bool ?_;refine ztO ?_;refine ztC ?_;refine zN (.int (↑(s + k' + 1) : Int)) ?_;refine zN (.int (↑e : Int)) ?_;refine k_eq (eq_ints _ _ _) ?_
    cases hc : (((s + k' + 1 : Nat) : Int) == (e : Int)) with
    | true =>
     rw [beq_iff_eq] at hc
     have hc : s + k' + 1 = e := by exact Nat.le_antisymm (ln1 144572555265601 298598301835265601 [_,_,_] [] hc) (ln1 146806210689601 309070954635267241 [_,_,_] [] hc)
     refine ite_yes ?_;refine ite_yes ?_;refine zsK ?_;refine zsX ?_;refine zM ?_;refine zN (.ref f) ?_;refine zmO hf ?_;refine zlC ?_;refine zT ?_;refine zlC ?_;refine zN (.int (↑(pst lv w s k').snd : Int)) ?_;refine zlC ?_;refine zN (.int (↑(s + k' + 1) : Int)) ?_;refine zlC ?_;refine zN (.str w) ?_;refine zlC ?_;refine zX ?_;refine zN (.ref v) ?_;refine zN (.int (↑(pst lv w s k').snd : Int)) ?_;refine g_list hvJ hvl (nth_nat (lv_get (by exact ln3 1473601 1409681 2294020801 298598301835270521 [_,_,_,_,_] [] hx.2.1 hP.2.2.1 ‹_›))) ?_;refine l_nil ?_;refine l_nil ?_;refine m_append hf hlen ?_;refine zsK ?_;refine zsN ?_;refine zN (.int (↑(s + k' + 1) : Int)) ?_;refine zsL (frXE5 (Mine.D.ref a) (Mine.D.ref v) (Mine.D.ref f) (Mine.D.int (↑s : Int)) (Mine.D.int (↑e : Int)) (Mine.D.str w) (Mine.D.int (↑(s + k' + 1) : Int)) (Mine.D.int (↑(s + k' + 1) : Int))) ?_;refine s_nil ?_;refine s_nil ?_;refine ⟨still_none, _, _, rfl, kj.set lf, .inr ⟨?_, ?_⟩⟩
     ·have : r' = 0 := by exact Nat.le_antisymm (ln3 56342401 2466307241 157515915264161 309090615435270481 [_,_,_,_,_] [] (Nat.sub_add_cancel (ln1 1409601 1473601 [_,_] [] hx.1)) hkr ‹_›) (ln0 56320561 [_] [])
      subst this; rfl
     ·rw [at_set hf, List.append_assoc]
      have : e - s - 1 = k' := by exact Nat.le_antisymm (ln3 1409601 98549846401 2468868881 309097169035265721 [_,_,_,_,_] [] (Nat.sub_add_cancel (ln1 56322161 157352075267241 [_,_,_] [] hkr)) (Nat.sub_add_cancel (ln1 1409601 1473601 [_,_] [] hx.1)) ‹_›) (ln2 1409601 102645846441 157679755268801 [_,_,_,_] [] (Nat.sub_add_cancel (ln1 56322161 157352075267241 [_,_,_] [] hkr)) hkr)
      unfold rowP;dsimp only;rw [this, ← hc]
    | false =>
     rw [beq_eq_false_iff_ne] at hc
     have hc : s + k' + 1 ≠ e := by omega
     refine el11 (pos_of (by assumption) hkr hc) fun r zr1 => ?_;subst zr1
     have hq : pst lv w s (k' + 1) = if lvAt lv (s + k' + 1) = lvAt lv (pst lv w s k').2 then pst lv w s k' else ((pst lv w s k').1 ++ [pieceD (pst lv w s k').2 (s + k' + 1) w (lvAt lv (pst lv w s k').2)], s + k' + 1) := by conv => lhs; unfold pst
     refine ite_no ?_;refine ztO ?_;refine ztC ?_;refine zX ?_;refine zN (.ref v) ?_;refine zN (.int (↑(s + k' + 1) : Int)) ?_;refine g_list hvJ hvl (nth_nat (lv_get (by exact ln3 151126155265601 2468864121 1411361 10101990098537864041 [_,_,_,_,_,_] [] (Nat.sub_add_cancel (ln1 1409601 1473601 [_,_] [] hx.1)) hx.2.1 hkr))) ?_;refine zX ?_;refine zN (.ref v) ?_;refine zN (.int (↑(pst lv w s k').snd : Int)) ?_;refine g_list hvJ hvl (nth_nat (lv_get (by exact ln4 1473601 2468868881 1409761 2294084801 10091504338537865801 [_,_,_,_,_,_,_] [] (Nat.sub_add_cancel (ln1 1409601 1473601 [_,_] [] hx.1)) hx.2.1 hP.2.2.1 hkr))) ?_;refine k_ne (eq_lv _ _ _) ?_
     by_cases hs : lvAt lv (s + k' + 1) = lvAt lv (pst lv w s k').2
     ·rw [decide_eq_true hs];rw [if_pos hs] at hq;refine ite_no ?_;refine a_nil_or ?_;refine ite_no ?_;refine s_nil ?_;refine s_nil ?_;refine ⟨still_none, _, _, rfl, kj, .inl ⟨k' + 1, r, by exact Nat.le_antisymm (ln1 9252643537039446401 10091504338537857601 [_,_,_] [] hkr) (ln1 9395597485673857601 10489963218537859241 [_,_,_] [] hkr), rfl, ?_, ?_⟩⟩
      ·rw [hq]; exact hf
      ·rw [hq]
     ·rw [decide_eq_false hs];rw [if_neg hs] at hq;refine ite_yes ?_;refine ite_yes ?_;refine zsK ?_;refine zsX ?_;refine zM ?_;refine zN (.ref f) ?_;refine zmO hf ?_;refine zlC ?_;refine zT ?_;refine zlC ?_;refine zN (.int (↑(pst lv w s k').snd : Int)) ?_;refine zlC ?_;refine zN (.int (↑(s + k' + 1) : Int)) ?_;refine zlC ?_;refine zN (.str w) ?_;refine zlC ?_;refine zX ?_;refine zN (.ref v) ?_;refine zN (.int (↑(pst lv w s k').snd : Int)) ?_;refine g_list hvJ hvl (nth_nat (lv_get (by exact ln4 1473601 2468868881 1409761 2294084801 10091504338537865801 [_,_,_,_,_,_,_] [] (Nat.sub_add_cancel (ln1 1409601 1473601 [_,_] [] hx.1)) hx.2.1 hP.2.2.1 hkr))) ?_;refine l_nil ?_;refine l_nil ?_;refine m_append hf hlen ?_;refine zsK ?_;refine zsN ?_;refine zN (.int (↑(s + k' + 1) : Int)) ?_;refine zsL (frXE5 (Mine.D.ref a) (Mine.D.ref v) (Mine.D.ref f) (Mine.D.int (↑s : Int)) (Mine.D.int (↑e : Int)) (Mine.D.str w) (Mine.D.int (↑(s + k' + 1) : Int)) (Mine.D.int (↑(s + k' + 1) : Int))) ?_;refine s_nil ?_;refine s_nil ?_;refine ⟨still_none, _, _, rfl, kj.set lf, .inl ⟨k' + 1, r, by exact Nat.le_antisymm (ln1 9252643537039446401 10091504338537857601 [_,_,_] [] hkr) (ln1 9395597485673857601 10489963218537859241 [_,_,_] [] hkr), rfl, ?_, ?_⟩⟩
      ·rw [at_set hf, hq, List.append_assoc]
      ·rw [hq]
   ·cases hrr
  ·rintro _ J ⟨v1c, h, rfl, kj, ⟨k', r, hkr, hrr, hf, rfl⟩ | ⟨-, hf⟩⟩
   ·have := rng_nil hrr; omega
   ·refine s_nil ?_;have hfa' : f ≠ a := hfa;refine ⟨still_ref (kj _ _ ha), _, _, _, _, _, rfl, kj, pre ++ [(s, e, w)], rs, by simpa using hp, rfl, ?_⟩;rw [hf, allP_snoc]
  ·exact in23 _ _ rfl k (.inl ⟨0, e - s - 1, by omega, rfl, by rw [hf]; simp [pst], rfl⟩)
 ·intro _ J zi1;refine el53 zi1 fun v1d v2d v3d v4d v5d zr2 k zq3 => ?_;clear zi1;subst zr2;refine el23 zq3 fun pre rs hp hrr hf => ?_;clear zq3;rw [map_nil_inv hrr, List.append_nil] at hp;subst hp;refine zsK ?_;refine zsR ?_;refine zN (.ref f) ?_;exact in14 f rfl k hf lf
 ·exact in53 _ _ _ _ _ rfl k1 ⟨[], R, rfl, rfl, hf⟩
end Mine
end

-- XF
section
namespace Mine
noncomputable def lvL : List Lv := [none, some 0, some 1, some 2, some 3]
theorem lv_shown : ∀ a ∈ lvL, ∀ b ∈ lvL, ((lvP a).shown = (lvP b).shown ↔ a = b) := by decide +kernel
theorem lv_range : ∀ a ∈ lvL, ∀ i, a = some i → 0 ≤ i ∧ i ≤ 100 := by
 intro a ha i hi;subst hi;simp only [lvL, List.mem_cons, List.not_mem_nil, or_false, Option.some.injEq] at ha;rcases ha with h | h | h | h | h
 ·cases h
 all_goals subst h; decide
theorem okf_lv {n : Nat} {l : Lv} (h : l ∈ lvL) : OkF n 0 (lvD l) := by
 cases l with
 | none => exact okf_none
 | some i => have := lv_range _ h i rfl; exact okf_int this.1 this.2
theorem repr_lv {l : Lv} {H : AH} {Q : D → AH → Prop} (h : l ∈ lvL) (q : Q (.txt (lvP l).shown) H) : Rx (bcall H .repr [lvD l]) Q := by
 refine w_repr (py_lv H 3 l) (k := 0) ?_ (by decide) q
 cases l with
 | none => exact sh_none
 | some i => have := lv_range _ h i rfl; exact sh_int this.1 this.2
noncomputable def cur (lv : List Lv) (w : Str) (s : Nat) : Nat → List D
 | 0 => []
 | k + 1 => (pst lv w s k).1 ++ [pieceD (pst lv w s k).2 (s + k + 1) w (lvAt lv (s + k))]
abbrev po_law_pieces (R : List Tri) (lv : List Lv) (H : AH) : D → AH → Prop := fun d H' => ∃ b, d = .ref b ∧ Keep H H' ∧ H'[b]? = some (.list (allP lv R)) ∧ H.length ≤ b
noncomputable def frXF0 (x0 x1 : D) : Loc := [("rows", some x0), ("levels", some x1), ("found", none), ("first", none), ("last", none), ("word", none), ("place", none)]
noncomputable def frXF1 (x0 x1 x2 : D) : Loc := [("rows", some x0), ("levels", some x1), ("found", some x2), ("first", none), ("last", none), ("word", none), ("place", none)]
noncomputable def frXF2 (x0 x1 x2 : D) (x3 x4 x5 x6 : Option D) : Loc := [("rows", some x0), ("levels", some x1), ("found", some x2), ("first", x3), ("last", x4), ("word", x5), ("place", x6)]
noncomputable abbrev ivXF0 (a v : Nat) (R : List Tri) (lv : List Mine.Lv) (H : AH) (f : Nat) : List D → Loc → AH → Prop := fun zr0 zl zh => ∃ zv0 zv1 zv2 zv3, zl = (frXF2 (D.ref a) (D.ref v) (D.ref f) zv0 zv1 zv2 zv3 : Loc) ∧ (fun _ _ _ _ rr J => Keep H J ∧ ∃ pre rs, pre ++ rs = R ∧ rr = rs.map triD ∧ J[f]? = some (.list (allP lv pre))) zv0 zv1 zv2 zv3 zr0 zh
noncomputable def frXF3 (x0 x1 x2 x3 x4 x5 : D) (x6 : Option D) : Loc := [("rows", some x0), ("levels", some x1), ("found", some x2), ("first", some x3), ("last", some x4), ("word", some x5), ("place", x6)]
noncomputable abbrev ivXF1 (a v : Nat) (lv : List Mine.Lv) (H : AH) (f : Nat) (pre : List Tri) (s e : Nat) (w : Str) : List D → Loc → AH → Prop := fun zr0 zl zh => ∃ zv0, zl = (frXF3 (D.ref a) (D.ref v) (D.ref f) (D.int (↑s : Int)) (D.int (↑e : Int)) (D.str w) zv0 : Loc) ∧ (fun _ rr J => Keep H J ∧ ∃ k r, k + r = e - s ∧ rr = rngFrom (s + k) r ∧ J[f]? = some (.list (allP lv pre ++ cur lv w s k))) zv0 zr0 zh
noncomputable def frXF4 (x0 x1 x2 x3 x4 x5 x6 : D) : Loc := [("rows", some x0), ("levels", some x1), ("found", some x2), ("first", some x3), ("last", some x4), ("word", some x5), ("place", some x6)]
theorem law_pieces {m a v : Nat} {R : List Tri} {lv : List Lv} {H : AH} (hm : 50 ≤ m) (ha : H[a]? = some (.list (R.map triD))) (hv : H[v]? = some (.list (lv.map lvD))) (hR : RowsOk R lv.length) (hRl : R.length ≤ 8) (hl : lv.length ≤ 8) (hlv : ∀ l ∈ lv, l ∈ lvL) :
  Rx ((ev ge m).cl (.fn 313) [.ref a, .ref v] H) (po_law_pieces R lv H) := by
 obtain ⟨n, rfl⟩ : ∃ n, m = n + 50 := ⟨m - 50, by exact Nat.le_antisymm (ln1 146800768833601 163905539220841 [_,_] [] (Nat.sub_add_cancel (ln1 90112080521 90112080521 [_] [] hm))) (ln1 144408579220801 157515779220801 [_,_] [] (Nat.sub_add_cancel (ln1 90112080521 90112080521 [_] [] hm)))⟩;refine zcF (frXF0 (D.ref a) (D.ref v)) ?_;refine zsK ?_;refine zsN ?_;refine zL ?_;refine l_nil ?_;refine ⟨by simp [maxLen], ?_⟩;intro f H1 k1 hf lf;refine zsL (frXF1 (D.ref a) (D.ref v) (D.ref f)) ?_;refine zsK ?_;refine zsF ?_;refine zN (.ref a) ?_
 have hvl : (lv.map lvD).length ≤ maxLen := by refine lm ?_; exact ln1 90374164801 56854401 [_] [] hl
 have hfa : f ≠ a := by have := lt_of_at ha; exact fun hq => ln3 1200 1537601 1408081 1475241 [_,_,_] [] hq lf this
 have hfv : f ≠ v := by have := lt_of_at hv; exact fun hq => ln3 1200 1537601 1408081 1475241 [_,_,_] [] hq lf this
 have hin : ∀ p, lvAt lv p ∈ lvL := by
  intro p;unfold lvAt
  cases h : lv[p]? with
  | none => decide
  | some l => exact hlv l (List.mem_of_getElem? h)
 refine in23 _ _ (src_ref (k1 _ _ ha)) (by refine lm ?_; exact ln1 90374164801 56854401 [_] [] hRl) ?_;refine zlp (ivXF0 a v R lv H f) ?_ ?_ ?_
 ·intro d rr _ J zi1;refine el43 zi1 fun v1a v2a v3a v4a zr2 k zq3 => ?_;clear zi1;subst zr2;refine el23 zq3 fun pre rs hp hrr hf => ?_;clear zq3;refine el23 (map_cons_inv hrr) fun x rs zr1 zr2 zr3 => ?_;subst zr1;subst zr2;subst zr3;have hx := hR x (by rw [← hp]; exact List.mem_append_right _ List.mem_cons_self)
  have hpl : pre.length ≤ 8 := by have := congrArg List.length hp; simp at this; exact ln2 56854401 56854441 157517417859201 [_,_,_] [] hRl this
  have hal : (allP lv pre).length ≤ 64 := by
   have h1 := allP_len (lv := lv) (R := pre) (N := lv.length) fun y hy => hR y (by rw [← hp]; exact List.mem_append_left _ hy);have h2 := Nat.mul_le_mul hl hpl;exact ln2 90116116801 1409601 90116116841 [_,_] [] h1 h2
  obtain ⟨s, e, w⟩ := x;dsimp only at hx;refine l_step ?_;refine zbT (frXF3 (D.ref a) (D.ref v) (D.ref f) (D.int (↑(s, e, w).fst : Int)) (D.int (↑(s, e, w).snd.fst : Int)) (D.str (s, e, w).snd.snd) v4a) ?_;refine zsK ?_;refine zsF ?_;refine zK (.bi Bi.range) ?_;refine zlC ?_;refine zN (.int (↑(s, e, w).fst : Int)) ?_;refine zlC ?_;refine zN (.int (↑(s, e, w).snd.fst : Int)) ?_;refine l_nil ?_;refine c_bi ?_;dsimp only;refine w_range2 (by exact ln0 173508409754121 [_] []) (by exact ln3 4270326622401 56854441 1475201 1409681 [_,_,_] [] hl hx.1 hx.2.1) (by exact ln0 173508409754121 [_] []) (by exact ln2 4270326622401 56854441 1409601 [_,_] [] hl hx.2.1) ?_;refine in23 _ _ (src_rng s e (by exact Int.le_antisymm (ln0 2711070401 [_] []) (ln0 2711070401 [_] [])) (by exact Int.le_antisymm (ln0 2711070401 [_] []) (ln0 2711070401 [_] [])) (by exact ln3 90374164801 56854441 1475201 1409681 [_,_,_] [] hl hx.1 hx.2.1) (by exact ln2 90374164801 56854441 1409601 [_,_] [] hl hx.2.1)) (by rw [rngFrom_len]; exact ln3 90374164801 2463745601 56854521 1412881 [_,_,_,_] [] (Nat.sub_add_cancel (ln1 1409601 1473601 [_,_] [] hx.1)) hl hx.2.1) ?_;refine zlp (ivXF1 a v lv H f pre s e w) ?_ ?_ ?_
  ·intro d rr _ J zi1;refine el13 zi1 fun v1b zr2 kj zq3 => ?_;clear zi1;subst zr2;refine el23 zq3 fun k' r hkr hrr hf => ?_;clear zq3;refine el13 (rng_cons hrr) fun r' zr1 zr2 zr3 => ?_;subst zr1;subst zr2;subst zr3;have hvJ := kj _ _ hv;refine l_step ?_;refine zbT (frXF4 (D.ref a) (D.ref v) (D.ref f) (D.int (↑s : Int)) (D.int (↑e : Int)) (D.str w) (D.int (↑(s + k') : Int))) ?_;refine zsK ?_;refine zsI ?_;refine t_bool ?_;refine ztA ?_;refine ztC ?_;refine zN (.int (↑(s + k') : Int)) ?_;refine zN (.int (↑s : Int)) ?_;refine k_gt ?_
   cases k' with
   | zero =>
    refine ite_f (by rw [decide_eq_true_eq]; exact fun hq => ln1 1200 180125731870401 [_] [] hq) ?_;refine ite_no ?_;refine zsK ?_;refine zsX ?_;refine zM ?_;refine zN (.ref f) ?_;refine zmO hf ?_;refine zlC ?_;refine zT ?_;refine zlC ?_;refine zN (.int (↑(s + 0) : Int)) ?_;refine zlC ?_;refine zP ?_;refine zN (.int (↑(s + 0) : Int)) ?_;refine zI ?_;refine b_add ?_;refine zlC ?_;refine zN (.str w) ?_;refine zlC ?_;refine zX ?_;refine zN (.ref v) ?_;refine zN (.int (↑(s + 0) : Int)) ?_;refine g_list hvJ hvl (nth_nat (lv_get (by exact ln2 94351382401 1475201 1409681 [_,_,_] [] hx.1 hx.2.1))) ?_;refine l_nil ?_;refine l_nil ?_;refine m_append hf (by simp only [maxLen, cur, List.append_nil]; exact ln1 90374164801 90116116801 [_] [] hal) ?_;refine s_nil ?_;refine s_nil ?_;refine ⟨still_none, _, rfl, kj.set lf, 1, r', by exact Nat.le_antisymm (ln1 90255362161 6300696714240561 [_,_] [] hkr) (ln1 91753046401 6556287114304561 [_,_] [] hkr), rfl, ?_⟩;rw [at_set hf, List.append_assoc]
    rfl
   | succ j =>
    have hP := pst_at lv w s j
    have hlen : (allP lv pre ++ cur lv w s (j + 1)).length ≤ maxLen := by
     unfold cur;rw [List.length_append, List.length_append, List.length_singleton]; exact ln6 9254314542697857601 2468868881 56854601 90116116801 1416161 10091600503541846641 1417641 [_,_,_,_,_,_,_,_] [] (Nat.sub_add_cancel (ln1 1409601 1473601 [_,_] [] hx.1)) hl hal hx.2.1 hkr hP.2.2.2
    have hc1 : cur lv w s (j + 1) = (pst lv w s j).1 ++ [pieceD (pst lv w s j).2 (s + j + 1) w (lvAt lv (s + j))] := rfl;have hc2 : cur lv w s (j + 1 + 1) = (pst lv w s (j + 1)).1 ++ [pieceD (pst lv w s (j + 1)).2 (s + (j + 1) + 1) w (lvAt lv (s + (j + 1)))] := rfl
    have hq : pst lv w s (j + 1) = if lvAt lv (s + j + 1) = lvAt lv (pst lv w s j).2 then pst lv w s j else ((pst lv w s j).1 ++ [pieceD (pst lv w s j).2 (s + j + 1) w (lvAt lv (pst lv w s j).2)], s + j + 1) := by conv => lhs; unfold pst
    refine ite_t (by rw [decide_eq_true_eq]; exact ln0 288203740572190401 [_,_] []) ?_;refine ztA ?_;refine ztC ?_;refine zK (.bi Bi.repr) ?_;refine zlC ?_;refine zX ?_;refine zN (.ref v) ?_;refine zN (.int (↑(s + (j + 1)) : Int)) ?_;refine g_list hvJ hvl (nth_nat (lv_get (by exact ln3 151127657857601 2468864121 1411361 10102086263337046441 [_,_,_,_,_,_] [] (Nat.sub_add_cancel (ln1 1409601 1473601 [_,_] [] hx.1)) hx.2.1 hkr))) ?_;refine l_nil ?_;refine c_bi ?_;refine repr_lv (hin _) ?_;refine zK (.bi Bi.repr) ?_;refine zlC ?_;refine zX ?_;refine zN (.ref v) ?_;refine zP ?_;refine zN (.int (↑(s + (j + 1)) : Int)) ?_;refine zI ?_;refine b_sub ?_
    refine g_list hvJ hvl (nth_of (by exact ln0 17734088631260572160561 [_,_] []) (by
     have e : (((s + (j + 1) : Nat) : Int) - 1).toNat = s + j := Int.toNat_sub (s + (j + 1)) 1
     rw [e]; exact lv_get (in_len (by assumption) (by assumption)))) ?_
    refine l_nil ?_;refine c_bi ?_;refine repr_lv (hin _) ?_;refine k_eq (eq_txt _ _) ?_
    by_cases hs : lvAt lv (s + (j + 1)) = lvAt lv (s + j)
    ·rw [decide_eq_true ((lv_shown _ (hin _) _ (hin _)).mpr hs)];rw [if_pos (show lvAt lv (s + j + 1) = lvAt lv (pst lv w s j).2 by rw [hP.1]; exact hs)] at hq;have hf' := hf;unfold cur at hf';rw [← List.append_assoc] at hf';unfold cur at hlen;rw [← List.append_assoc] at hlen;refine ite_yes ?_;refine a_nil_and ?_;refine ite_yes ?_;refine zsK ?_;refine zsS ?_;refine zT ?_;refine zlC ?_;refine zX ?_;refine zX ?_;refine zN (.ref f) ?_;refine zU ?_;refine zI ?_;refine ⟨_, rfl, ?_⟩;refine g_list hf' hlen (nth_last _ _) ?_;refine zI ?_;refine g_tup (by simp [maxLen]) (nth_nat (k := 0) rfl) ?_;refine zlC ?_;refine zP ?_;refine zN (.int (↑(s + (j + 1)) : Int)) ?_;refine zI ?_;refine b_add ?_;refine zlC ?_;refine zN (.str w) ?_;refine zlC ?_;refine zX ?_;refine zN (.ref v) ?_;refine zN (.int (↑(s + (j + 1)) : Int)) ?_;refine g_list hvJ hvl (nth_nat (lv_get (by exact ln3 151127657857601 2468864121 1411361 10102086263337046441 [_,_,_,_,_,_] [] (Nat.sub_add_cancel (ln1 1409601 1473601 [_,_] [] hx.1)) hx.2.1 hkr))) ?_;refine l_nil ?_;refine zN (.ref f) ?_;refine zU ?_;refine zI ?_;refine ⟨_, rfl, ?_⟩;refine u_list hf' hlen (setNth_last _ _ _) ?_;refine s_nil ?_;refine s_nil ?_;refine ⟨still_none, _, rfl, kj.set lf, j + 1 + 1, r', by exact Nat.le_antisymm (ln1 9252643804610646401 10091600502927446401 [_,_,_] [] hkr) (ln1 9395870328425857601 10490059383029846441 [_,_,_] [] hkr), rfl, ?_⟩;rw [at_set hf', List.append_assoc];rw [hc2, hq]
     rfl
    ·rw [decide_eq_false (fun h => hs ((lv_shown _ (hin _) _ (hin _)).mp h))];rw [if_neg (show ¬ lvAt lv (s + j + 1) = lvAt lv (pst lv w s j).2 by rw [hP.1]; exact hs)] at hq;refine ite_no ?_;refine ite_no ?_;refine zsK ?_;refine zsX ?_;refine zM ?_;refine zN (.ref f) ?_;refine zmO hf ?_;refine zlC ?_;refine zT ?_;refine zlC ?_;refine zN (.int (↑(s + (j + 1)) : Int)) ?_;refine zlC ?_;refine zP ?_;refine zN (.int (↑(s + (j + 1)) : Int)) ?_;refine zI ?_;refine b_add ?_;refine zlC ?_;refine zN (.str w) ?_;refine zlC ?_;refine zX ?_;refine zN (.ref v) ?_;refine zN (.int (↑(s + (j + 1)) : Int)) ?_;refine g_list hvJ hvl (nth_nat (lv_get (by exact ln3 151127657857601 2468864121 1411361 10102086263337046441 [_,_,_,_,_,_] [] (Nat.sub_add_cancel (ln1 1409601 1473601 [_,_] [] hx.1)) hx.2.1 hkr))) ?_;refine l_nil ?_;refine l_nil ?_;refine m_append hf hlen ?_;refine s_nil ?_;refine s_nil ?_;refine ⟨still_none, _, rfl, kj.set lf, j + 1 + 1, r', by exact Nat.le_antisymm (ln1 9252643804610646401 10091600502927446401 [_,_,_] [] hkr) (ln1 9395870328425857601 10490059383029846441 [_,_,_] [] hkr), rfl, ?_⟩;rw [at_set hf, List.append_assoc];rw [hc2, hq, hc1, hP.1]
     rfl
  ·intro _ J zi1;refine el13 zi1 fun v1c zr2 kj zq3 => ?_;clear zi1;subst zr2;refine el23 zq3 fun k' r hkr hrr hf => ?_;clear zq3;have := rng_nil hrr;subst this;obtain ⟨j, rfl⟩ : ∃ j, k' = j + 1 := ⟨k' - 1, by exact Nat.le_antisymm (ln1 91753857601 102441046441 [_,_] [] (Nat.sub_add_cancel (ln3 56322161 2568707241 1476881 102543382401 [_,_,_,_] [] (Nat.sub_add_cancel (ln1 1409601 1473601 [_,_] [] hx.1)) hx.1 hkr))) (ln1 90255446401 98447446401 [_,_] [] (Nat.sub_add_cancel (ln3 56322161 2568707241 1476881 102543382401 [_,_,_,_] [] (Nat.sub_add_cancel (ln1 1409601 1473601 [_,_] [] hx.1)) hx.1 hkr)))⟩;refine s_nil ?_;refine ⟨still_ref (kj _ _ ha), _, _, _, _, rfl, kj, pre ++ [(s, e, w)], rs, by simpa using hp, rfl, ?_⟩;rw [hf, allP_snoc]
   have e1 : e - s - 1 = j := by exact Nat.le_antisymm (ln2 1409601 98549846401 6569330114646441 [_,_,_] [] (Nat.sub_add_cancel (ln1 56322161 6294078914646441 [_,_] [] hkr)) hkr) (ln2 1409601 102645846441 6307186114646401 [_,_,_] [] (Nat.sub_add_cancel (ln1 56322161 6294078914646441 [_,_] [] hkr)) hkr)
   have e2 : s + j + 1 = e := by exact Nat.le_antisymm (ln2 144572555265601 2463744121 6313739714646441 [_,_,_,_] [] (Nat.sub_add_cancel (ln1 1409601 1473601 [_,_] [] hx.1)) hkr) (ln2 146806210689601 2561025721 6575883714646481 [_,_,_,_] [] (Nat.sub_add_cancel (ln1 1409601 1473601 [_,_] [] hx.1)) hkr)
   unfold rowP cur;dsimp only;rw [e1, e2, (pst_at lv w s j).1]
  ·exact in13 _ rfl k ⟨0, e - s, by exact Nat.le_antisymm (ln0 90152960561 [_] []) (ln0 91750422401 [_] []), rfl, by rw [hf]; simp [cur]⟩
 ·intro _ J zi1;refine el43 zi1 fun v1d v2d v3d v4d zr2 k zq3 => ?_;clear zi1;subst zr2;refine el23 zq3 fun pre rs hp hrr hf => ?_;clear zq3;rw [map_nil_inv hrr, List.append_nil] at hp;subst hp;refine zsK ?_;refine zsR ?_;refine zN (.ref f) ?_;exact in14 f rfl k hf lf
 ·exact in43 _ _ _ _ rfl k1 ⟨[], R, rfl, rfl, hf⟩
end Mine
end

-- XG
section
namespace Mine
theorem min_cast (M p : Nat) {r : Int} (h : 0 ≤ r) : min (M : Int) ((p : Int) + 1 + r) = ((min M (p + 1 + r.toNat) : Nat) : Int) := by
 refine el11 (Int.eq_ofNat_of_zero_le h) fun k zr1 => ?_;subst zr1
 show min (M : Int) ((p + 1 + k : Nat) : Int) = ((min M (p + 1 + k) : Nat) : Int)
 rcases Nat.le_total M (p + 1 + k) with q | q
 ·rw [Nat.min_eq_left q]; exact Int.min_eq_left (Int.ofNat_le.2 q)
 ·rw [Nat.min_eq_right q]; exact Int.min_eq_right (Int.ofNat_le.2 q)
theorem four_of {r : Int} (h : 0 ≤ r) (h4 : r < 4) : r = 0 ∨ r = 1 ∨ r = 2 ∨ r = 3 := by
 refine el11 (Int.eq_ofNat_of_zero_le h) fun k zr1 => ?_;subst zr1
 match k, Int.ofNat_lt.1 h4 with
 | 0, _ => exact .inl rfl
 | 1, _ => exact .inr (.inl rfl)
 | 2, _ => exact .inr (.inr (.inl rfl))
 | 3, _ => exact .inr (.inr (.inr rfl))
 | k + 4, q => exact absurd q (Nat.not_lt.2 (Nat.le_add_left 4 k))
theorem Deck.le {H : AH} {i c : Nat} {t u : Int} (D : Deck H i c t) (h : t = u) : Deck H i c u := h ▸ D
theorem KeepBut.refl {S : Nat → Prop} (H : AH) : KeepBut S H H := fun O O O e => e
theorem KeepBut.setNew {S : Nat → Prop} {H H' : AH} {f : Nat} {o : AO} (k : KeepBut S H H') (hf : H.length ≤ f) : KeepBut S H (H'.set f o) := fun j o' h e => by
 have hj := lt_of_at e;exact at_set_ne (by exact fun hq => ln3 1200 1537601 1408081 1475241 [_,_,_] [] hq hf hj) (k j o' h e)
theorem Deck.set {H : AH} {i c f : Nat} {t : Int} {o : AO} (D : Deck H i c t) (h1 : f ≠ i) (h2 : f ≠ c) : Deck (H.set f o) i c t :=
 ⟨let ⟨m, a, b, h⟩ := D.dict; ⟨m, a, b, at_set_ne h1 h⟩, let ⟨cs, a, h⟩ := D.cells; ⟨cs, a, at_set_ne h2 h⟩, D.t0⟩
theorem w_min {H : AH} {a b : Int} {Q : D → AH → Prop} (q : Q (.int (min a b)) H) : Rx (bcall H .min [.int a, .int b]) Q := ⟨_, _, by unfold bcall; rfl, q⟩
abbrev po_drawn_rows (i c M : Nat) (tt : Int) (H : AH) : D → AH → Prop := fun d H' => ∃ a R u, d = .ref a ∧ KeepBut (OnDeck i c) H H' ∧ Deck H' i c u ∧ u ≤ tt + 24 ∧ H'[a]? = some (.list (R.map triD)) ∧ RowsOk R M ∧ R.length ≤ 8 ∧ H.length ≤ a
noncomputable def frXG0 (x0 x1 : Mine.D) : Loc := [("deck", some x0), ("many", some x1), ("rows", none), ("place", none), ("last", none)]
noncomputable def frXG1 (x0 x1 x2 : Mine.D) : Loc := [("deck", some x0), ("many", some x1), ("rows", some x2), ("place", some (.int 0)), ("last", none)]
noncomputable def frXG2 (x0 x1 x2 : Mine.D) (x3 x4 : Option Mine.D) : Loc := [("deck", some x0), ("many", some x1), ("rows", some x2), ("place", x3), ("last", x4)]
noncomputable abbrev ivXG0 (i c M : Nat) (tt : Int) (H : AH) (f : Nat) : Nat → Loc → AH → Prop := fun zr0 zl zh => ∃ zv0 zv1, zl = (frXG2 (Mine.D.ref i) (Mine.D.int (↑M : Int)) (Mine.D.ref f) zv1 zv0 : Loc) ∧ (fun _ pl m J => ∃ p : Nat, pl = some (.int p) ∧ p ≤ M ∧ m + p = M ∧ ∃ (R : List Tri) (u : Int), KeepBut (OnDeck i c) H J ∧ J[f]? = some (.list (R.map triD)) ∧ RowsOk R M ∧ R.length ≤ p ∧ Deck J i c u ∧ u ≤ tt + 3 * p) zv0 zv1 zr0 zh
noncomputable def frXG3 (x0 x1 x2 x3 x4 : Mine.D) : Loc := [("deck", some x0), ("many", some x1), ("rows", some x2), ("place", some x3), ("last", some x4)]
theorem drawn_rows {m i c M : Nat} {tt : Int} {H : AH} (hm : 60 ≤ m) (D : Deck H i c tt) (htt : tt < 90000) (hM : M ≤ 8) :
  Rx ((ev ge m).cl (.fn 320) [.ref i, .int M] H) (po_drawn_rows i c M tt H) := by
 obtain ⟨n, rfl⟩ : ∃ n, m = n + 60 := ⟨m - 60, by exact Nat.le_antisymm (ln1 146800794433601 163905539860841 [_,_] [] (Nat.sub_add_cancel (ln1 90112096521 90112096521 [_] [] hm))) (ln1 144408579860801 157515779860801 [_,_] [] (Nat.sub_add_cancel (ln1 90112096521 90112096521 [_] [] hm)))⟩
 have hi : i < H.length := by obtain ⟨_, _, _, h⟩ := D.dict; exact lt_of_at h
 have hc : c < H.length := by obtain ⟨_, _, h⟩ := D.cells; exact lt_of_at h
 refine zcF (frXG0 (Mine.D.ref i) (Mine.D.int (↑M : Int))) ?_;refine zsK ?_;refine zsT ?_;refine zT ?_;refine zlC ?_;refine zL ?_;refine l_nil ?_;refine ⟨by simp [maxLen], ?_⟩;intro f H1 k1 hf lf
 have hfi : ¬ OnDeck i c f := by rintro (rfl | rfl) <;> omega
 refine zlC ?_;refine zI ?_;refine l_nil ?_;refine zbT (frXG1 (Mine.D.ref i) (Mine.D.int (↑M : Int)) (Mine.D.ref f)) ?_;refine zsK ?_;refine s_whl ?_;refine zwp (ivXG0 i c M tt H f) ?_ (m := M) ?_ ?_
 ·intro m _ J zi1;refine el22 zi1 fun v1a O zr2 zq3 => ?_;clear zi1;subst zr2;refine el14 zq3 fun p zr4 hp hmp zq5 => ?_;clear zq3;subst zr4;refine el26 zq5 fun R u kb hf hR hRl DJ hu => ?_;clear zq5;refine ztC ?_;refine zN (.int (↑p : Int)) ?_;refine zN (.int (↑M : Int)) ?_;refine k_lt ?_
  by_cases hlt : p < M
  ·refine ite_t (by rw [decide_eq_true_eq]; exact ln1 2813534401 1473601 [_,_] [] hlt) ?_;refine zsK ?_;refine zsN ?_;refine zK (.bi Bi.min) ?_;refine zlC ?_;refine zN (.int (↑M : Int)) ?_;refine zlC ?_;refine zP ?_;refine zP ?_;refine zN (.int (↑p : Int)) ?_;refine zI ?_;refine b_add ?_;refine zK (.fn 272) ?_;refine zlC ?_;refine zN (.ref i) ?_;refine zlC ?_;refine zI ?_;refine l_nil ?_;refine (draw_any (by exact ln0 375823899039060528561 [_] []) DJ (by decide) (by decide) (by exact ln4 176953600024321 176952960024361 56854403 6923956334990721 1472043 [_,_] [_,_] htt hM hu hlt)).mono ?_;intro _ J1 zi1;refine el15 zi1 fun r1 zr2 r10 r11 kb1 D1 => ?_;clear zi1;subst zr2;have hf1 := kb1 _ _ hfi hf;refine b_add ?_;refine l_nil ?_;refine c_bi ?_;refine w_min ?_;have eL : min (M : Int) ((p : Int) + 1 + r1) = ((min M (p + 1 + r1.toNat) : Nat) : Int) := min_cast _ _ (by assumption);rw [eL];have hL1 : p < min M (p + 1 + r1.toNat) := Nat.lt_min.2 ⟨hlt, Nat.le_add_right _ _⟩
   have hL2 : min M (p + 1 + r1.toNat) ≤ M := by exact ln1 1409601 1409601 [_,_] [] (Nat.min_le_left _ _)
   generalize min M (p + 1 + r1.toNat) = L at *;refine zsL (frXG3 (Mine.D.ref i) (Mine.D.int (↑M : Int)) (Mine.D.ref f) (Mine.D.int (↑p : Int)) (Mine.D.int (↑L : Int))) ?_;refine zsK ?_;refine zsI ?_;refine ztC ?_;refine zK (.fn 272) ?_;refine zlC ?_;refine zN (.ref i) ?_;refine zlC ?_;refine zI ?_;refine l_nil ?_;refine (draw_any (by exact ln0 375823899039162928561 [_] []) D1 (by decide) (by decide) (by exact ln4 11325030401577046721 176952960024361 56854403 2458627243 6923956437390721 [_,_,_] [_,_] htt hM hmp hu)).mono ?_;intro _ J2 zi1;refine el15 zi1 fun r2 zr2 r20 r21 kb2 D2 => ?_;clear zi1;subst zr2;have hf2 := kb2 _ _ hfi hf1;refine zI ?_;refine k_gt ?_
   by_cases h2 : r2 > 0
   ·refine ite_t (by rw [decide_eq_true_eq]; exact h2) ?_;refine zsK ?_;refine zsX ?_;refine zM ?_;refine zN (.ref f) ?_;refine zmO hf2 ?_;refine zlC ?_;refine zT ?_;refine zlC ?_;refine zN (.int (↑p : Int)) ?_;refine zlC ?_;refine zN (.int (↑L : Int)) ?_;refine zlC ?_;refine zX ?_;refine zL ?_;refine zlC ?_;refine zS ?_;refine zlC ?_;refine zS ?_;refine zlC ?_;refine zS ?_;refine zlC ?_;refine zS ?_;refine l_nil ?_;refine ⟨by simp [maxLen], ?_⟩;intro g J3 k3 hg lg;refine zK (.fn 272) ?_;refine zlC ?_;refine zN (.ref i) ?_;refine zlC ?_;refine zI ?_;refine l_nil ?_;have D3 := D2.keep k3;refine (draw_any (by exact ln0 375823899038855728561 [_] []) D3 (by decide) (by decide) (by exact ln4 724801945700931010646721 176952960024361 56854403 2458627243 6923956437390721 [_,_,_] [_,_] htt hM hmp hu)).mono ?_;intro _ J4 zi1;refine el15 zi1 fun r3 zr2 r30 r31 kb4 D4 => ?_;clear zi1;subst zr2;have hl2 := kb.trans (kb1.trans kb2)
    have hgi : ¬ OnDeck i c g := by
     refine el13 (D2.dict) fun O O O h => ?_;refine el12 (D2.cells) fun O O h' => ?_;have := lt_of_at h;have := lt_of_at h'
     rintro (rfl | rfl) <;> omega
    have hg4 := kb4 _ _ hgi hg;have hf4 := kb4 _ _ hfi (k3 _ _ hf2)
    obtain ⟨w, hw, hw2⟩ : ∃ w : Str, w ∈ wordsL ∧ ([.str "Latn", .str "Latn", .str "Grek", .str "Zyyy"] : List Mine.D)[r3.toNat]? = some (.str w) := by
     have : r3 = 0 ∨ r3 = 1 ∨ r3 = 2 ∨ r3 = 3 := four_of (by assumption) (by assumption);rcases this with rfl | rfl | rfl | rfl
     ·exact in12 ("Latn") (by decide) rfl
     ·exact in12 ("Latn") (by decide) rfl
     ·exact in12 ("Grek") (by decide) rfl
     ·exact in12 ("Zyyy") (by decide) rfl
    refine g_list hg4 (by simp [maxLen]) (nth_of r30 hw2) ?_;refine l_nil ?_;refine l_nil ?_;refine m_append hf4 (by refine lm ?_; exact ln3 90374164801 56854441 1411201 1473681 [_,_,_] [] hM hRl hlt) ?_;refine s_nil ?_;refine zsK ?_;refine zsN ?_;refine zN (.int (↑L : Int)) ?_;refine zsL (frXG3 (Mine.D.ref i) (Mine.D.int (↑M : Int)) (Mine.D.ref f) (Mine.D.int (↑L : Int)) (Mine.D.int (↑L : Int))) ?_;refine s_nil ?_;refine in12 (M - L) (by exact ln3 1473601 2466307201 2568710441 1475361 [_,_,_,_,_] [] (Nat.sub_add_cancel (ln1 1409601 1409601 [_,_] [] hL2)) hmp hL1) ⟨_, _, rfl, L, rfl, hL2, by exact Nat.le_antisymm (ln1 2258945601 2463745601 [_,_,_] [] (Nat.sub_add_cancel (ln1 1409601 1409601 [_,_] [] hL2))) (ln1 2293889601 2561027241 [_,_,_] [] (Nat.sub_add_cancel (ln1 1409601 1409601 [_,_] [] hL2))), R ++ [(p, L, w)], u + 1 + 1 + 1, ?_, ?_, ?_, ?_, ?_, by exact ln2 1815073582636345946281410646721 6923956334990721 1472043 [_,_] [_,_] hu hL1⟩
    ·exact (hl2.trans (KeepBut.trans k3.but kb4)).setNew lf
    ·rw [at_set hf4, List.map_append]; rfl
    ·intro x hx;rcases List.mem_append.mp hx with hx | hx
     ·exact hR x hx
     ·rw [List.mem_singleton.mp hx]; exact ⟨hL1, hL2, hw⟩
    ·rw [List.length_append, List.length_singleton]; exact ln2 90255446401 1411201 1473681 [_,_,_] [] hRl hL1
    ·exact D4.set (fun h => hfi (.inl h)) (fun h => hfi (.inr h))
   ·refine ite_f (by rw [decide_eq_true_eq]; exact h2) ?_;refine s_nil ?_;refine zsK ?_;refine zsN ?_;refine zN (.int (↑L : Int)) ?_;refine zsL (frXG3 (Mine.D.ref i) (Mine.D.int (↑M : Int)) (Mine.D.ref f) (Mine.D.int (↑L : Int)) (Mine.D.int (↑L : Int))) ?_;refine s_nil ?_;exact in12 (M - L) (by exact ln3 1473601 2466307201 2568710441 1475361 [_,_,_,_,_] [] (Nat.sub_add_cancel (ln1 1409601 1409601 [_,_] [] hL2)) hmp hL1) ⟨_, _, rfl, L, rfl, hL2, by exact Nat.le_antisymm (ln1 2258945601 2463745601 [_,_,_] [] (Nat.sub_add_cancel (ln1 1409601 1409601 [_,_] [] hL2))) (ln1 2293889601 2561027241 [_,_,_] [] (Nat.sub_add_cancel (ln1 1409601 1409601 [_,_] [] hL2))), R, u + 1 + 1, kb.trans (kb1.trans kb2), hf2, hR, by exact ln2 1409601 1411201 1473681 [_,_,_] [] hRl hL1, D2, by exact ln2 28360524728692905410646721 6923956334990721 1472043 [_,_] [_,_] hu hL1⟩
  ·refine ite_f (by rw [decide_eq_true_eq]; exact fun hq => ln2 1200 2813534401 1408041 [_,_] [] hq (Nat.le_of_not_lt hlt)) ?_;refine zsK ?_;refine zsR ?_;refine zN (.ref f) ?_
   obtain rfl : p = M := by exact Nat.le_antisymm (ln1 1409601 1409601 [_,_] [] hp) (ln1 1409601 1409601 [_,_] [] (Nat.le_of_not_lt hlt))
   exact in38 f R u rfl kb DJ (by exact ln2 108196750721 6923956232590721 56854403 [_] [_,_] hu hM) hf hR (by exact ln2 56854401 1409601 56854441 [_,_] [] hRl hM) lf
 ·exact ln1 94214420801 56854401 [_] [] hM
 ·exact in22 _ _ rfl ⟨0, rfl, by exact ln0 56320561 [_] [], by exact Nat.le_antisymm (ln0 90152982401 [_] []) (ln0 91751296001 [_] []), [], tt, k1.but, hf, (fun x hx => nomatch hx), Nat.le_refl _, D.keep k1, by exact ln0 276958250402189121 [] [_]⟩
end Mine
end

-- XH
section
namespace Mine
abbrev po_deck_any (H : AH) : D → AH → Prop := fun d H' => ∃ i c, d = .ref i ∧ Keep H H' ∧ Deck H' i c 0 ∧ H.length ≤ i ∧ H.length ≤ c
theorem deck_any {m : Nat} {ns : List Int} {H : AH} (hm : 30 ≤ m) (hn : ns.length ≤ 63) :
  Rx ((ev ge m).cl (.fn 265) [.fl (ns.map .int)] H) (po_deck_any H) := by
 obtain ⟨n, rfl⟩ : ∃ n, m = n + 30 := ⟨m - 30, by exact Nat.le_antisymm (ln1 91828097601 102442902441 [_,_] [] (Nat.sub_add_cancel (ln1 56368561 56368561 [_] [] hm))) (ln1 90257302401 98449302401 [_,_] [] (Nat.sub_add_cancel (ln1 56368561 56368561 [_] [] hm)))⟩;exact deck_spec hn
theorem eq_same_ints {H : AH} {t w : Nat} {cs : List Int} (ht : H[t]? = some (.list (cs.map .int))) (hw : H[w]? = some (.list (cs.map .int))) : isEq H (.ref t) (.ref w) = some true := by
 have h1 : py H 3 (.ref t) = some (.list (cs.map .int)) := by
  unfold py; dsimp only; rw [listAt_of ht]; dsimp only; rw [py_ints]; rfl
 have h2 : py H 3 (.ref w) = some (.list (cs.map .int)) := by
  unfold py; dsimp only; rw [listAt_of hw]; dsimp only; rw [py_ints]; rfl
 unfold isEq;dsimp only;rw [h1, h2];dsimp only
 have : ∀ l : List Int, PyData.eqvAll (l.map .int) (l.map .int) = true := by
  intro l
  induction l with
  | nil => rfl
  | cons x l ih => simp [PyData.eqvAll, eqv_int, ih]
 simp [PyData.eqv, this]
theorem rows_at (r : Int) (h0 : 0 ≤ r) (h1 : r < 12) : ∃ x ∈ rowsL, nth (rowsL.map rowD) r = some (rowD x) := by
 have hl : rowsL.length = 12 := rfl;have g : rowsL[r.toNat]? = some rowsL[r.toNat] := List.getElem?_eq_getElem (by exact ln3 1473601 72222401 69910721 64790441 [_,_] [_] (Int.toNat_of_nonneg (ln1 67072561 67072561 [] [_] h0)) h1 hl);exact in12 _ (List.getElem_mem _) (nth_of h0 (by rw [List.getElem?_map, g]; rfl))
theorem pst_mem (lv : List Lv) (w : Str) (s : Nat) {d : D} : ∀ k, d ∈ (pst lv w s k).1 → ∃ h p, d = pieceD h p w (lvAt lv h) ∧ h ≤ s + k ∧ p ≤ s + k
 | 0, hd => nomatch hd
 | k + 1, hd => by
  unfold pst at hd
  split at hd
  ·refine el23 (pst_mem lv w s k hd) fun h p e h1 h2 => ?_;exact in23 h p e (by exact ln1 146866314369601 2293889601 [_,_,_] [] h1) (by exact ln1 146866314369601 2293889601 [_,_,_] [] h2)
  ·rcases List.mem_append.mp hd with hd | hd
   ·refine el23 (pst_mem lv w s k hd) fun h p e h1 h2 => ?_;exact in23 h p e (by exact ln1 146866314369601 2293889601 [_,_,_] [] h1) (by exact ln1 146866314369601 2293889601 [_,_,_] [] h2)
   ·have := (pst_at lv w s k).2.2.1;exact in23 _ _ (List.mem_singleton.mp hd) (by exact ln1 146866314369601 2293889601 [_,_,_] [] this) (by exact ln0 15039110584795275265601 [_,_] [])
theorem lvAt_in {lv : List Lv} (hlv : ∀ l ∈ lv, l ∈ lvL) (p : Nat) : lvAt lv p ∈ lvL := by
 unfold lvAt
 cases h : lv[p]? with
 | none => decide
 | some l => exact hlv l (List.mem_of_getElem? h)
theorem okf_piece {h p : Nat} {w : Str} {l : Lv} (hh : h ≤ 100) (hp : p ≤ 100) (hw : w ∈ wordsL) (hl : l ∈ lvL) : OkF 2 36 (pieceD h p w l) := by
 refine okf_tup (n := 1) (k := 8) ?_ (by simp);intro d hd;simp only [List.mem_cons, List.not_mem_nil, or_false] at hd;rcases hd with rfl | rfl | rfl | rfl
 ·exact okf_int (by exact ln0 2711040561 [_] []) (by exact ln1 4260096862401 90118420801 [_] [] hh)
 ·exact okf_int (by exact ln0 2711040561 [_] []) (by exact ln1 4260096862401 90118420801 [_] [] hp)
 ·exact okf_str (words_s _ hw)
 ·exact (okf_lv hl).mono (by decide)
theorem okf_tri {N : Nat} {x : Tri} (hx : x.1 < x.2.1 ∧ x.2.1 ≤ N ∧ x.2.2 ∈ wordsL) (hN : N ≤ 100) : OkF 1 36 (triD x) := by
 refine okf_tup (n := 0) (k := 8) ?_ (by simp);intro d hd;simp only [List.mem_cons, List.not_mem_nil, or_false] at hd;rcases hd with rfl | rfl | rfl
 ·exact okf_int (by exact ln0 2711040561 [_] []) (by exact ln3 4260096862401 1473601 1411241 90118420881 [_,_,_] [] hx.1 hx.2.1 hN)
 ·exact okf_int (by exact ln0 2711040561 [_] []) (by exact ln2 4260096862401 1409601 90118420841 [_,_] [] hx.2.1 hN)
 ·exact okf_str (words_s _ hx.2.2)
theorem repr_all {lv : List Lv} {R : List Tri} {N : Nat} (hR : RowsOk R N) (hRl : R.length ≤ 8) (hN : N ≤ 8) (hlv : ∀ l ∈ lv, l ∈ lvL) :
  ∃ x : Str, ∀ (H : AH) (i : Nat) (Q : D → AH → Prop), H[i]? = some (.list (allP lv R)) → Q (.txt x) H → Rx (bcall H .repr [.ref i]) Q := by
 have hl := allP_len (lv := lv) (N := N) hR;have h2 := Nat.mul_le_mul hN hRl;refine repr_list (k := 36) ?_ (by exact ln2 9231763768888150401 1409637 90116116877 [_,_] [] hl h2);intro d hd;refine el12 (List.mem_flatMap.mp hd) fun x hx hd => ?_;have hr := hR x hx;unfold rowP at hd;rcases List.mem_append.mp hd with hd | hd
 ·refine el23 (pst_mem _ _ _ _ hd) fun h p zr1 h1 h2 => ?_;subst zr1;exact okf_piece (by omega) (by omega) hr.2.2 (lvAt_in hlv _)
 ·have := (pst_at lv x.2.2 x.1 (x.2.1 - x.1 - 1)).2.2.1;rw [List.mem_singleton.mp hd];exact okf_piece (by omega) (by exact ln2 90118420801 56854441 1409601 [_,_] [] hN hr.2.1) hr.2.2 (lvAt_in hlv _)
theorem items_again {lv : List Lv} {R : List Tri} {N : Nat} (hR : RowsOk R N) (hRl : R.length ≤ 8) (hN : N ≤ 8) : (allP lv R).length ≤ maxLen := by
 have hl := allP_len (lv := lv) (N := N) hR;have h2 := Nat.mul_le_mul hN hRl;simp only [maxLen];exact ln2 90374164801 1409601 90116116841 [_,_] [] hl h2
theorem five_of {r : Int} (h : 0 ≤ r) (h4 : r < 5) : r = 0 ∨ r = 1 ∨ r = 2 ∨ r = 3 ∨ r = 4 := by
 refine el11 (Int.eq_ofNat_of_zero_le h) fun k zr1 => ?_;subst zr1
 match k, Int.ofNat_lt.1 h4 with
 | 0, _ => exact .inl rfl
 | 1, _ => exact .inr (.inl rfl)
 | 2, _ => exact .inr (.inr (.inl rfl))
 | 3, _ => exact .inr (.inr (.inr (.inl rfl)))
 | 4, _ => exact .inr (.inr (.inr (.inr rfl)))
 | k + 5, q => exact absurd q (Nat.not_lt.2 (Nat.le_add_left 5 k))
theorem menu5 (r : Int) (h0 : 0 ≤ r) (h1 : r < 5) : ∃ l : Lv, l ∈ lvL ∧ nth [.int 0, .int 1, .int 1, .int 2, .none] r = some (lvD l) := by
 have := five_of h0 h1;rcases this with rfl | rfl | rfl | rfl | rfl
 ·exact in12 (some 0) (by decide) rfl
 ·exact in12 (some 1) (by decide) rfl
 ·exact in12 (some 1) (by decide) rfl
 ·exact in12 (some 2) (by decide) rfl
 ·exact in12 none (by decide) rfl
theorem menu4 (r : Int) (h0 : 0 ≤ r) (h1 : r < 4) : ∃ l : Lv, l ∈ lvL ∧ nth [.int 0, .int 0, .int 1, .int 3] r = some (lvD l) := by
 have := four_of h0 h1;rcases this with rfl | rfl | rfl | rfl
 ·exact in12 (some 0) (by decide) rfl
 ·exact in12 (some 0) (by decide) rfl
 ·exact in12 (some 1) (by decide) rfl
 ·exact in12 (some 3) (by decide) rfl
abbrev po_law_all : D → AH → Prop := fun d H' => d = .bool true
noncomputable def frXH0 (x0 : D) : Loc := [("script", some x0), ("deck", none), ("text", none), ("kept", none), ("was", none), ("rows", none), ("levels", none), ("drawn", none), ("before", none)]
noncomputable def frXH1 (x0 x1 : D) : Loc := [("script", some x0), ("deck", some x1), ("text", none), ("kept", none), ("was", none), ("rows", none), ("levels", none), ("drawn", none), ("before", none)]
noncomputable def frXH2 (x0 x1 : D) : Loc := [(".0", none), ("turn", none), ("script", some x0), ("deck", some x1), ("text", none), ("kept", none), ("was", none), ("rows", none), ("levels", none), ("drawn", none), ("before", none)]
noncomputable def frXH3 (x0 : Option D) (x1 x2 : D) : Loc := [(".0", none), ("turn", x0), ("script", some x1), ("deck", some x2), ("text", none), ("kept", none), ("was", none), ("rows", none), ("levels", none), ("drawn", none), ("before", none)]
noncomputable abbrev ivXH0 (ns : List Int) (H1 : AH) (i c : Nat) : List D → List D → Loc → AH → Prop := fun zr0 zr1 zl zh => ∃ zv0, zl = (frXH3 zv0 (D.fl (List.map D.int ns)) (D.ref i) : Loc) ∧ (fun _ rr acc J => KeepBut (OnDeck i c) H1 J ∧ ∃ (u : Int) (pre : List Row) (k : Nat), Deck J i c u ∧ u + rr.length ≤ 10 ∧ rr = rngFrom k rr.length ∧ acc = textD pre ∧ pre.length + rr.length ≤ 8 ∧ ∀ r ∈ pre, r ∈ rowsL) zv0 zr0 zr1 zh
noncomputable def frXH4 (x0 x1 x2 : D) : Loc := [(".0", none), ("turn", some x0), ("script", some x1), ("deck", some x2), ("text", none), ("kept", none), ("was", none), ("rows", none), ("levels", none), ("drawn", none), ("before", none)]
noncomputable def frXH5 (x0 x1 x2 : D) : Loc := [("script", some x0), ("deck", some x1), ("text", some x2), ("kept", none), ("was", none), ("rows", none), ("levels", none), ("drawn", none), ("before", none)]
noncomputable def frXH6 (x0 x1 x2 x3 x4 : D) : Loc := [("script", some x0), ("deck", some x1), ("text", some x2), ("kept", some x3), ("was", some x4), ("rows", none), ("levels", none), ("drawn", none), ("before", none)]
noncomputable def frXH7 (x0 x1 x2 x3 x4 x5 : D) : Loc := [("script", some x0), ("deck", some x1), ("text", some x2), ("kept", some x3), ("was", some x4), ("rows", some x5), ("levels", none), ("drawn", none), ("before", none)]
noncomputable def frXH8 (x0 x1 x2 x3 x4 x5 : D) : Loc := [(".0", none), ("code", none), ("script", some x0), ("deck", some x1), ("text", some x2), ("kept", some x3), ("was", some x4), ("rows", some x5), ("levels", none), ("drawn", none), ("before", none)]
noncomputable def frXH9 (x0 : Option D) (x1 x2 x3 x4 x5 x6 : D) : Loc := [(".0", none), ("code", x0), ("script", some x1), ("deck", some x2), ("text", some x3), ("kept", some x4), ("was", some x5), ("rows", some x6), ("levels", none), ("drawn", none), ("before", none)]
noncomputable abbrev ivXH1 (ns : List Int) (i c : Nat) (ts : List Row) (t kd w a : Nat) (H9 : AH) : List D → List D → Loc → AH → Prop := fun zr0 zr1 zl zh => ∃ zv0, zl = (frXH9 zv0 (D.fl (List.map D.int ns)) (D.ref i) (D.ref t) (D.ref kd) (D.ref w) (D.ref a) : Loc) ∧ (fun _ rr acc J => KeepBut (OnDeck i c) H9 J ∧ ∃ (u : Int) (lv : List Lv) (rs : List Row), Deck J i c u ∧ u + rr.length ≤ 30 ∧ rr = textD rs ∧ acc = lv.map lvD ∧ lv.length + rr.length = ts.length ∧ ∀ l ∈ lv, l ∈ lvL) zv0 zr0 zr1 zh
noncomputable def frXH10 (x0 x1 x2 x3 x4 x5 x6 : D) : Loc := [(".0", none), ("code", some x0), ("script", some x1), ("deck", some x2), ("text", some x3), ("kept", some x4), ("was", some x5), ("rows", some x6), ("levels", none), ("drawn", none), ("before", none)]
noncomputable def frXH11 (x0 x1 x2 x3 x4 x5 x6 : D) : Loc := [("script", some x0), ("deck", some x1), ("text", some x2), ("kept", some x3), ("was", some x4), ("rows", some x5), ("levels", some x6), ("drawn", none), ("before", none)]
noncomputable def frXH12 (x0 x1 x2 x3 x4 x5 x6 : D) : Loc := [(".0", none), ("turn", none), ("script", some x0), ("deck", some x1), ("text", some x2), ("kept", some x3), ("was", some x4), ("rows", some x5), ("levels", some x6), ("drawn", none), ("before", none)]
noncomputable def frXH13 (x0 : Option D) (x1 x2 x3 x4 x5 x6 x7 : D) : Loc := [(".0", none), ("turn", x0), ("script", some x1), ("deck", some x2), ("text", some x3), ("kept", some x4), ("was", some x5), ("rows", some x6), ("levels", some x7), ("drawn", none), ("before", none)]
noncomputable abbrev ivXH2 (ns : List Int) (i c t kd w a v : Nat) (H15 : AH) : List D → List D → Loc → AH → Prop := fun zr0 zr1 zl zh => ∃ zv0, zl = (frXH13 zv0 (D.fl (List.map D.int ns)) (D.ref i) (D.ref t) (D.ref kd) (D.ref w) (D.ref a) (D.ref v) : Loc) ∧ (fun _ rr acc J => KeepBut (OnDeck i c) H15 J ∧ ∃ (u : Int) (lv : List Lv) (k : Nat), Deck J i c u ∧ u + rr.length ≤ 50 ∧ rr = rngFrom k rr.length ∧ acc = lv.map lvD ∧ lv.length + rr.length ≤ 8 ∧ ∀ l ∈ lv, l ∈ lvL) zv0 zr0 zr1 zh
noncomputable def frXH14 (x0 x1 x2 x3 x4 x5 x6 x7 : D) : Loc := [(".0", none), ("turn", some x0), ("script", some x1), ("deck", some x2), ("text", some x3), ("kept", some x4), ("was", some x5), ("rows", some x6), ("levels", some x7), ("drawn", none), ("before", none)]
noncomputable def frXH15 (x0 x1 x2 x3 x4 x5 x6 x7 : D) : Loc := [("script", some x0), ("deck", some x1), ("text", some x2), ("kept", some x3), ("was", some x4), ("rows", some x5), ("levels", some x6), ("drawn", some x7), ("before", none)]
noncomputable def frXH16 (x0 x1 x2 x3 x4 x5 x6 x7 x8 : D) : Loc := [("script", some x0), ("deck", some x1), ("text", some x2), ("kept", some x3), ("was", some x4), ("rows", some x5), ("levels", some x6), ("drawn", some x7), ("before", some x8)]
theorem law_all {n : Nat} {ns : List Int} (hn : ns.length ≤ 63) : Rx ((ev ge (n + 300)).cl (.fn 337) [.fl (ns.map .int)] []) (po_law_all) := by
 refine zcF (frXH0 (D.fl (List.map D.int ns))) ?_;refine zsK ?_;refine zsN ?_;refine zK (.fn 265) ?_;refine zlC ?_;refine zN (.fl (List.map D.int ns)) ?_;refine l_nil ?_;refine (deck_any (by exact ln0 375823899063943728561 [_] []) hn).mono ?_;intro _ H1 zi1;refine el25 zi1 fun i c zr2 k1 D1 li lc => ?_;clear zi1;subst zr2;refine zsL (frXH1 (D.fl (List.map D.int ns)) (D.ref i)) ?_;refine zsK ?_;refine zsC ?_;refine zY (frXH2 (D.fl (List.map D.int ns)) (D.ref i)) ?_;refine zK (.bi Bi.range) ?_;refine zlC ?_;refine zK (.fn 272) ?_;refine zlC ?_;refine zN (.ref i) ?_;refine zlC ?_;refine zI ?_;refine l_nil ?_;refine (draw_any (by exact ln0 375823899063841328561 [_] []) D1 (by decide) (by decide) (by decide)).mono ?_;intro _ H2 zi1;refine el15 zi1 fun r1 zr2 r10 r11 kb1 D2 => ?_;clear zi1;subst zr2;refine l_nil ?_;refine c_bi ?_;refine w_range1 (by with_reducible assumption) (by exact ln1 106758165121 69718721 [] [_] r11) ?_;refine in23 _ _ (src_rng 0 r1.toNat rfl (by exact Int.le_antisymm (ln1 67776321 74782401 [_] [_] (Int.toNat_of_nonneg (ln1 67072561 67072561 [] [_] r10))) (ln1 67102401 72222401 [_] [_] (Int.toNat_of_nonneg (ln1 67072561 67072561 [] [_] r10)))) (by decide) (by exact ln2 90374164801 72222401 69718721 [_] [_] (Int.toNat_of_nonneg (ln1 67072561 67072561 [] [_] r10)) r11)) (by rw [rngFrom_len]; simp only [maxLen]; omega) ?_;refine zcp (ivXH0 ns H1 i c) ?_ ?_ ?_
 ·intro d rr acc _ J zi1;refine el13 zi1 fun v1a zr2 kb zq3 => ?_;clear zi1;subst zr2;refine el36 zq3 fun u pre k D3 hu hrr zr4 hl hpre => ?_;clear zq3;subst zr4;refine el13 (rng_cons hrr) fun k' e1 zr1 e2 => ?_;subst zr1;simp only [List.length_cons] at hu hl e1;refine zc0 ?_;refine zbT (frXH4 (D.int (↑k : Int)) (D.fl (List.map D.int ns)) (D.ref i)) ?_;refine zX ?_;refine zX ?_;refine zN (valAt 27) ?_;refine zK (.fn 272) ?_;refine zlC ?_;refine zN (.ref i) ?_;refine zlC ?_;refine zI ?_;refine l_nil ?_;refine (draw_any (by exact ln0 375823899063738928561 [_] []) D3 (by decide) (by decide) (by exact ln1 176953600024321 275345651305856321 [_] [_] hu)).mono ?_;intro _ J1 zi1;refine el15 zi1 fun r2 zr2 r20 r21 kb2 D4 => ?_;clear zi1;subst zr2;refine el12 (rows_at r2 r20 r21) fun x hx hn => ?_;rw [rows_val];refine g_fl (by simp only [List.length_map]; decide) hn ?_;refine zI ?_;refine g_tup (by simp [maxLen]) (nth_nat (k := 0) rfl) ?_;refine ⟨still_none, _, rfl, kb.trans kb2, u + 1, pre ++ [x], k + 1, D4, by exact ln1 275345649705046721 275345651305856321 [_] [_] hu, by rw [e2, rngFrom_len], by simp [textD], by simp; exact ln1 5821956239446401 5821957737857601 [_,_] [] hl, ?_⟩;intro r hr;rcases List.mem_append.mp hr with hr | hr
  ·exact hpre r hr
  ·rw [List.mem_singleton.mp hr]; exact hx
 ·intro ys _ H3 zi1;refine el13 zi1 fun v1b zr2 kb zq3 => ?_;clear zi1;subst zr2;refine el36 zq3 fun u ts k D3 hu hrr hy hl hts => ?_;clear zq3;rw [List.nil_append] at hy;subst hy;simp only [List.length_nil] at hu hl
  have hl8 : ts.length ≤ 8 := by exact ln1 56854401 3638722582401 [_] [] hl
  have hpl8 : (textD ts).length ≤ maxLen := by simp [maxLen]; exact ln1 90374164801 3638722582401 [_] [] hl
  refine ⟨hpl8, ?_⟩;intro t H4 k4 ht lt;have D4 := D3.keep k4;refine zsL (frXH5 (D.fl (List.map D.int ns)) (D.ref i) (D.ref t)) ?_;refine zsK ?_;refine zsT ?_;refine zT ?_;refine zlC ?_;refine zK (.fn 279) ?_;refine zlC ?_;refine zN (.ref t) ?_;refine l_nil ?_;refine (law_data (by exact ln0 601318238502146048160521 [_] []) ht hts).mono ?_;intro _ H5 zi1;refine el73 zi1 fun kd jd df mp es L1 L2 zr2 F5 k5 => ?_;clear zi1;subst zr2;have K5 : Kept H5 kd ts := ⟨_, _, _, _, _, _, _, F5⟩;have ht5 := k5 _ _ ht;refine zlC ?_;refine zK (.bi Bi.list) ?_;refine zlC ?_;refine zN (.ref t) ?_;refine l_nil ?_;refine c_bi ?_;refine w_listl ht5 hpl8 ?_;intro w H6 k6 hw lw;refine l_nil ?_;refine zbT (frXH6 (D.fl (List.map D.int ns)) (D.ref i) (D.ref t) (D.ref kd) (D.ref w)) ?_;refine zsK ?_;refine zsN ?_;refine zK (.fn 306) ?_;refine zlC ?_;refine zN (.ref t) ?_;refine l_nil ?_;have k46 := k5.trans k6;have ht6 := k46 _ _ ht;refine (law_tiles (by exact ln0 601318238502309888144521 [_] []) hts ht6 (by exact ln1 90115220801 3638722582401 [_] [] hl)).mono ?_;intro _ H7 zi1;refine el14 zi1 fun a zr2 k7 ha la => ?_;clear zi1;subst zr2;have ht7 := k7 _ _ ht6;have hw7 := k7 _ _ hw;have K7 := (K5.keep k6).keep k7;rw [tile_tri] at ha;have D7 := D4.keep (k46.trans k7);refine zsL (frXH7 (D.fl (List.map D.int ns)) (D.ref i) (D.ref t) (D.ref kd) (D.ref w) (D.ref a)) ?_;refine zsK ?_;refine zsI ?_;refine t_bool ?_;refine ztO ?_;refine ztN ?_;refine ztV ?_;refine zK (.fn 325) ?_;refine zlC ?_;refine zN (.ref t) ?_;refine zlC ?_;refine zN (.ref kd) ?_;refine zlC ?_;refine zN (.ref a) ?_;refine l_nil ?_;refine (counts_right (by exact ln0 601318238501818368320521 [_] []) K7 hts ht7 hl8 ha).mono ?_;intro _ H8 zi1;refine el02 zi1 fun zr2 k8 => ?_;clear zi1;subst zr2;refine k_truth ?_;refine ite_no ?_;refine ztO ?_;refine ztN ?_;refine ztV ?_;refine zK (.fn 332) ?_;refine zlC ?_;refine zN (.ref i) ?_;refine zlC ?_;refine zN (.ref t) ?_;refine zlC ?_;refine zN (.ref kd) ?_;refine l_nil ?_;have D8 := D7.keep k8;refine (lots_right (by exact ln0 601318238501818368208521 [_] []) (K7.keep k8) hts (k8 _ _ ht7) hl8 D8 (by exact ln1 176952960024321 172091031062721 [] [_] hu)).mono ?_;intro _ H9 zi1;refine el03 zi1 fun zr2 kb9 D9 => ?_;clear zi1;subst zr2;refine k_truth ?_;refine ite_no ?_;refine a_nil_or ?_;refine ite_no ?_;refine s_nil ?_;refine zsK ?_;refine zsC ?_;refine zY (frXH8 (D.fl (List.map D.int ns)) (D.ref i) (D.ref t) (D.ref kd) (D.ref w) (D.ref a)) ?_;refine zN (.ref t) ?_
  have oi : i < H3.length := by obtain ⟨_, _, _, h⟩ := D3.dict; exact lt_of_at h
  have oc : c < H3.length := by obtain ⟨_, _, h⟩ := D3.cells; exact lt_of_at h
  have z4 := k4.len;have z5 := k5.len;have z6 := k6.len
  have ot : ¬ OnDeck i c t := by rintro (rfl | rfl) <;> omega
  have ow : ¬ OnDeck i c w := by rintro (rfl | rfl) <;> omega
  have oa : ¬ OnDeck i c a := by rintro (rfl | rfl) <;> omega
  have ht9 := kb9 _ _ ot (k8 _ _ ht7);have hw9 := kb9 _ _ ow (k8 _ _ hw7);have ha9 := kb9 _ _ oa (k8 _ _ ha);refine in23 _ _ (src_ref ht9) hpl8 ?_;refine zcp (ivXH1 ns i c ts t kd w a H9) ?_ ?_ ?_
  ·intro d rr acc _ J zi1;refine el13 zi1 fun v1c zr2 kb zq3 => ?_;clear zi1;subst zr2;refine el36 zq3 fun u lv rs DJ hu hrr zr4 hl hlv => ?_;clear zq3;subst zr4;refine el23 (text_cons hrr) fun x rs zr1 zr2 zr3 => ?_;subst zr1;subst zr2;subst zr3;simp only [List.length_cons] at hu hl;refine zc0 ?_;refine zbT (frXH10 (D.int x.fst) (D.fl (List.map D.int ns)) (D.ref i) (D.ref t) (D.ref kd) (D.ref w) (D.ref a)) ?_;refine zX ?_;refine zL ?_;refine zlC ?_;refine zI ?_;refine zlC ?_;refine zI ?_;refine zlC ?_;refine zI ?_;refine zlC ?_;refine zI ?_;refine zlC ?_;refine zO ?_;refine l_nil ?_;refine ⟨by simp [maxLen], ?_⟩;intro f J1 kj1 hf lf;refine zK (.fn 272) ?_;refine zlC ?_;refine zN (.ref i) ?_;refine zlC ?_;refine zI ?_;refine l_nil ?_;have DJ1 := DJ.keep kj1
   have of : ¬ OnDeck i c f := by
    refine el13 (DJ.dict) fun O O O h => ?_;refine el12 (DJ.cells) fun O O h' => ?_;have := lt_of_at h;have := lt_of_at h'
    rintro (rfl | rfl) <;> omega
   refine (draw_any (by exact ln0 375823899063841328561 [_] []) DJ1 (by decide) (by decide) (by exact ln1 176953600024321 280588531305856321 [_] [_] hu)).mono ?_;intro _ J2 zi1;refine el15 zi1 fun r2 zr2 r20 r21 kb2 DJ2 => ?_;clear zi1;subst zr2;refine el12 (menu5 r2 r20 r21) fun l hl5 hn5 => ?_;refine g_list (kb2 _ _ of hf) (by simp [maxLen]) hn5 ?_;have kk : KeepBut (OnDeck i c) H9 J2 := kb.trans (KeepBut.trans kj1.but kb2);refine ⟨still_ref (kk _ _ ot ht9), _, rfl, kk, u + 1, lv ++ [l], rs, DJ2, by exact ln1 280588529705046721 280588531305856321 [_] [_] hu, rfl, by simp, by simp at hl ⊢; exact Nat.le_antisymm (ln1 144572559446401 157681257857601 [_,_,_] [] hl) (ln1 146810473857601 163907177859241 [_,_,_] [] hl), ?_⟩;intro l' hl';rcases List.mem_append.mp hl' with hl' | hl'
   ·exact hlv l' hl'
   ·rw [List.mem_singleton.mp hl']; exact hl5
  ·intro ys _ H10 zi1;refine el13 zi1 fun v1d zr2 kb10 zq3 => ?_;clear zi1;subst zr2;refine el36 zq3 fun u1 lv rs D10 hu1 hrr hy hl1 hlv => ?_;clear zq3;rw [List.nil_append] at hy;subst hy;simp only [List.length_nil] at hu1 hl1
   have hll : lv.length ≤ 8 := by exact ln2 56854401 3638722582441 98447382401 [_,_] [] hl hl1
   have hlm : (lv.map lvD).length ≤ maxLen := by refine lm ?_; exact ln2 90374164801 3638722582441 98447382401 [_,_] [] hl hl1
   refine ⟨hlm, ?_⟩;intro v H11 k11 hv lv11;have ha11 := k11 _ _ (kb10 _ _ oa ha9);have ht11 := k11 _ _ (kb10 _ _ ot ht9);have hw11 := k11 _ _ (kb10 _ _ ow hw9);have D11 := D10.keep k11
   have hR : RowsOk (tri ts) lv.length := by
    intro x hx;have := tri_good hts x hx;exact in03 this.1 (by exact ln2 1409601 102645782441 1411201 [_,_,_] [] hl1 this.2.1) this.2.2
   have hRl : (tri ts).length ≤ 8 := Nat.le_trans (tri_len hts) hl8;refine el11 (repr_all hR hRl hll hlv) fun x1 hx1 => ?_;refine zsL (frXH11 (D.fl (List.map D.int ns)) (D.ref i) (D.ref t) (D.ref kd) (D.ref w) (D.ref a) (D.ref v)) ?_;refine zsK ?_;refine zsI ?_;refine ztC ?_;refine zK (.bi Bi.repr) ?_;refine zlC ?_;refine zK (.bi Bi.list) ?_;refine zlC ?_;refine zK (.fn 112) ?_;refine zlC ?_;refine zN (.ref a) ?_;refine zlC ?_;refine zN (.ref v) ?_;refine l_nil ?_;refine (script_items (by exact ln0 601318238501818368080521 [_] []) ha11 hv hR hRl hll).mono ?_;intro _ H12 zi1;refine el14 zi1 fun b1 zr2 k12 hb1 lb1 => ?_;clear zi1;subst zr2;refine l_nil ?_;refine c_bi ?_;refine w_listl hb1 (items_again hR hRl hll) ?_;intro b2 H13 k13 hb2 lb2;refine l_nil ?_;refine c_bi ?_;refine hx1 _ _ _ hb2 ?_;refine zK (.bi Bi.repr) ?_;refine zlC ?_;refine zK (.fn 313) ?_;refine zlC ?_;refine zN (.ref a) ?_;refine zlC ?_;refine zN (.ref v) ?_;refine l_nil ?_;have k1113 := k12.trans k13;refine (law_pieces (by exact ln0 601318238501982208080521 [_] []) (k1113 _ _ ha11) (k1113 _ _ hv) hR hRl hll hlv).mono ?_;intro _ H14 zi1;refine el14 zi1 fun b3 zr2 k14 hb3 lb3 => ?_;clear zi1;subst zr2;refine l_nil ?_;refine c_bi ?_;refine hx1 _ _ _ hb3 ?_;refine k_ne (eq_txt _ _) ?_;rw [decide_eq_true rfl];refine ite_no ?_;refine s_nil ?_;refine zsK ?_;refine zsC ?_;refine zY (frXH12 (D.fl (List.map D.int ns)) (D.ref i) (D.ref t) (D.ref kd) (D.ref w) (D.ref a) (D.ref v)) ?_;refine zK (.bi Bi.range) ?_;refine zlC ?_;refine zK (.fn 272) ?_;refine zlC ?_;refine zN (.ref i) ?_;refine zlC ?_;refine zI ?_;refine l_nil ?_;have k1114 := k1113.trans k14;have D14 := D11.keep k1114;have ht14 := k1114 _ _ ht11;have hw14 := k1114 _ _ hw11;refine (draw_any (by exact ln0 375823899063841328561 [_] []) D14 (by decide) (by decide) (by exact ln1 176953600024321 175367831062721 [] [_] hu1)).mono ?_;intro _ H15 zi1;refine el15 zi1 fun r3 zr2 r30 r31 kb15 D15 => ?_;clear zi1;subst zr2;have ht15 := kb15 _ _ ot ht14;have hw15 := kb15 _ _ ow hw14;refine l_nil ?_;refine c_bi ?_;refine w_range1 (by with_reducible assumption) (by exact ln1 106758165121 69718721 [] [_] r31) ?_;refine in23 _ _ (src_rng 0 r3.toNat rfl (by exact Int.le_antisymm (ln1 67776321 74782401 [_] [_] (Int.toNat_of_nonneg (ln1 67072561 67072561 [] [_] r30))) (ln1 67102401 72222401 [_] [_] (Int.toNat_of_nonneg (ln1 67072561 67072561 [] [_] r30)))) (by decide) (by exact ln2 90374164801 72222401 69718721 [_] [_] (Int.toNat_of_nonneg (ln1 67072561 67072561 [] [_] r30)) r31)) (by rw [rngFrom_len]; simp only [maxLen]; omega) ?_;refine zcp (ivXH2 ns i c t kd w a v H15) ?_ ?_ ?_
   ·intro d rr acc _ J zi1;refine el13 zi1 fun v1e zr2 kb zq3 => ?_;clear zi1;subst zr2;refine el36 zq3 fun u lv k DJ hu hrr zr4 hl hlv => ?_;clear zq3;subst zr4;refine el13 (rng_cons hrr) fun k' e1 zr1 e2 => ?_;subst zr1;simp only [List.length_cons] at hu hl e1;refine zc0 ?_;refine zbT (frXH14 (D.int (↑k : Int)) (D.fl (List.map D.int ns)) (D.ref i) (D.ref t) (D.ref kd) (D.ref w) (D.ref a) (D.ref v)) ?_;refine zX ?_;refine zL ?_;refine zlC ?_;refine zI ?_;refine zlC ?_;refine zI ?_;refine zlC ?_;refine zI ?_;refine zlC ?_;refine zI ?_;refine l_nil ?_;refine ⟨by simp [maxLen], ?_⟩;intro f J1 kj1 hf lf;refine zK (.fn 272) ?_;refine zlC ?_;refine zN (.ref i) ?_;refine zlC ?_;refine zI ?_;refine l_nil ?_;have DJ1 := DJ.keep kj1
    have of : ¬ OnDeck i c f := by
     refine el13 (DJ.dict) fun O O O h => ?_;refine el12 (DJ.cells) fun O O h' => ?_;have := lt_of_at h;have := lt_of_at h'
     rintro (rfl | rfl) <;> omega
    refine (draw_any (by exact ln0 375823899063841328561 [_] []) DJ1 (by decide) (by decide) (by exact ln1 176953600024321 436220811097705856321 [_] [_] hu)).mono ?_;intro _ J2 zi1;refine el15 zi1 fun r2 zr2 r20 r21 kb2 DJ2 => ?_;clear zi1;subst zr2;refine el12 (menu4 r2 r20 r21) fun l hl5 hn5 => ?_;refine g_list (kb2 _ _ of hf) (by simp [maxLen]) hn5 ?_;have kk : KeepBut (OnDeck i c) H15 J2 := kb.trans (KeepBut.trans kj1.but kb2);refine ⟨still_none, _, rfl, kk, u + 1, lv ++ [l], k + 1, DJ2, by exact ln1 436220811096105046721 436220811097705856321 [_] [_] hu, by rw [e2, rngFrom_len], by simp, by simp; exact ln1 5821956239446401 5821957737857601 [_,_] [] hl, ?_⟩;intro l' hl';rcases List.mem_append.mp hl' with hl' | hl'
    ·exact hlv l' hl'
    ·rw [List.mem_singleton.mp hl']; exact hl5
   ·intro ys _ H16 zi1;refine el13 zi1 fun v1f zr2 kb16 zq3 => ?_;clear zi1;subst zr2;refine el36 zq3 fun u2 lw2 k D16 hu2 hrr hy hl2 hlw => ?_;clear zq3;rw [List.nil_append] at hy;subst hy;simp only [List.length_nil] at hu2 hl2
    have hlm2 : (lw2.map lvD).length ≤ maxLen := by refine lm ?_; exact ln1 90374164801 3638722582401 [_] [] hl2
    refine ⟨hlm2, ?_⟩;intro e H17 k17 he le17;have ht17 := k17 _ _ (kb16 _ _ ot ht15);have hw17 := k17 _ _ (kb16 _ _ ow hw15);have D17 := D16.keep k17
    have oi6 : i < H16.length := by obtain ⟨_, _, _, h⟩ := D16.dict; exact lt_of_at h
    have oc6 : c < H16.length := by obtain ⟨_, _, h⟩ := D16.cells; exact lt_of_at h
    have oe : ¬ OnDeck i c e := by rintro (rfl | rfl) <;> omega
    refine zsL (frXH11 (D.fl (List.map D.int ns)) (D.ref i) (D.ref t) (D.ref kd) (D.ref w) (D.ref a) (D.ref e)) ?_;refine zsK ?_;refine zsN ?_;refine zK (.fn 320) ?_;refine zlC ?_;refine zN (.ref i) ?_;refine zlC ?_;refine zK (.bi Bi.len) ?_;refine zlC ?_;refine zN (.ref e) ?_;refine l_nil ?_;refine c_bi ?_;refine w_len he hlm2 ?_;rw [List.length_map];refine l_nil ?_;refine (drawn_rows (by exact ln0 601318238502309888096521 [_] []) D17 (by exact ln1 176952960024321 272638006935062721 [] [_] hu2) (by exact ln1 56854401 3638722582401 [_] [] hl2)).mono ?_;intro _ H18 zi1;refine el38 zi1 fun g R u3 zr2 kb18 D18 hu3 hg hR2 hRl2 lg => ?_;clear zi1;subst zr2;have ht18 := kb18 _ _ ot ht17;have hw18 := kb18 _ _ ow hw17;have he18 := kb18 _ _ oe he
    have hRm : (R.map triD).length ≤ maxLen := by refine lm ?_; exact ln1 90374164801 56854401 [_] [] hRl2
    refine el11 (repr_all hR2 hRl2 (by exact ln1 56854401 3638722582401 [_] [] hl2) hlw) fun x2 hx2 => ?_;refine el11 (repr_pair (k := 36) (ds := R.map triD) (es := lw2.map lvD) (fun d hd => by obtain ⟨x, hx, rfl⟩ := List.mem_map.mp hd; exact okf_tri (hR2 x hx) (by exact ln1 90118420801 3638722582401 [_] [] hl2)) (fun d hd => by obtain ⟨l, hl, rfl⟩ := List.mem_map.mp hd; exact (okf_lv (hlw l hl)).mono (by decide)) (by rw [List.length_map, List.length_map]; exact ln2 945002756445813866737665601 3638722582477 56854437 [_,_] [] hl2 hRl2)) fun x3 hx3 => ?_;refine zsL (frXH15 (D.fl (List.map D.int ns)) (D.ref i) (D.ref t) (D.ref kd) (D.ref w) (D.ref a) (D.ref e) (D.ref g)) ?_;refine zsK ?_;refine zsN ?_;refine zK (.bi Bi.repr) ?_;refine zlC ?_;refine zL ?_;refine zlC ?_;refine zN (.ref g) ?_;refine zlC ?_;refine zN (.ref e) ?_;refine l_nil ?_;refine ⟨by simp [maxLen], ?_⟩;intro p1 H19 k19 hp1 lp1;refine l_nil ?_;refine c_bi ?_;refine hx3 _ _ _ _ _ (k19 _ _ hg) (k19 _ _ he18) hp1 ?_;refine zsL (frXH16 (D.fl (List.map D.int ns)) (D.ref i) (D.ref t) (D.ref kd) (D.ref w) (D.ref a) (D.ref e) (D.ref g) (D.txt x3)) ?_;refine zsK ?_;refine zsI ?_;refine ztC ?_;refine zK (.bi Bi.repr) ?_;refine zlC ?_;refine zK (.bi Bi.list) ?_;refine zlC ?_;refine zK (.fn 112) ?_;refine zlC ?_;refine zN (.ref g) ?_;refine zlC ?_;refine zN (.ref e) ?_;refine l_nil ?_;have he19 := k19 _ _ he18;have hg19 := k19 _ _ hg;refine (script_items (by exact ln0 601318238501818368080521 [_] []) hg19 he19 hR2 hRl2 (by exact ln1 56854401 3638722582401 [_] [] hl2)).mono ?_;intro _ H20 zi1;refine el14 zi1 fun b4 zr2 k20 hb4 lb4 => ?_;clear zi1;subst zr2;refine l_nil ?_;refine c_bi ?_;refine w_listl hb4 (items_again hR2 hRl2 (by exact ln1 56854401 3638722582401 [_] [] hl2)) ?_;intro b5 H21 k21 hb5 lb5;refine l_nil ?_;refine c_bi ?_;refine hx2 _ _ _ hb5 ?_;refine zK (.bi Bi.repr) ?_;refine zlC ?_;refine zK (.fn 313) ?_;refine zlC ?_;refine zN (.ref g) ?_;refine zlC ?_;refine zN (.ref e) ?_;refine l_nil ?_;have k1921 := k20.trans k21;refine (law_pieces (by exact ln0 601318238501982208080521 [_] []) (k1921 _ _ hg19) (k1921 _ _ he19) hR2 hRl2 (by exact ln1 56854401 3638722582401 [_] [] hl2) hlw).mono ?_;intro _ H22 zi1;refine el14 zi1 fun b6 zr2 k22 hb6 lb6 => ?_;clear zi1;subst zr2;refine l_nil ?_;refine c_bi ?_;refine hx2 _ _ _ hb6 ?_;refine k_ne (eq_txt _ _) ?_;rw [decide_eq_true rfl];have k1922 := k1921.trans k22;refine ite_no ?_;refine s_nil ?_;refine zsK ?_;refine zsR ?_;refine zA ?_;refine zC ?_;refine zN (.ref t) ?_;refine zN (.ref w) ?_;refine k_eq (eq_same_ints (k1922 _ _ (k19 _ _ ht18)) (k1922 _ _ (k19 _ _ hw18))) ?_;refine k_truth ?_;refine ite_yes ?_;refine zC ?_;refine zK (.bi Bi.repr) ?_;refine zlC ?_;refine zL ?_;refine zlC ?_;refine zN (.ref g) ?_;refine zlC ?_;refine zN (.ref e) ?_;refine l_nil ?_;refine ⟨by simp [maxLen], ?_⟩;intro p2 H23 k23 hp2 lp2;refine l_nil ?_;refine c_bi ?_;refine hx3 _ _ _ _ _ (k23 _ _ (k1922 _ _ hg19)) (k23 _ _ (k1922 _ _ he19)) hp2 ?_;refine zN (.txt x3) ?_;refine k_eq (eq_txt _ _) ?_;rw [decide_eq_true rfl]
    rfl
   ·exact in13 _ rfl (fun O O O e => e) ⟨_, [], _, D15, by rw [rngFrom_len]; omega, by rw [rngFrom_len], rfl, by rw [rngFrom_len]; simp; exact ln1 67094721 69718721 [] [_] r31, fun O h => nomatch h⟩
  ·exact in13 _ rfl (fun O O O e => e) ⟨_, [], ts, D9, by simp; exact ln2 280588529705494721 172091031062721 3638722582401 [_] [_] hu hl, rfl, rfl, by simp, fun O h => nomatch h⟩
 ·exact in13 _ rfl kb1 ⟨_, [], _, D2, by rw [rngFrom_len]; omega, by rw [rngFrom_len], rfl, by rw [rngFrom_len]; simp; exact ln1 67094721 69718721 [] [_] r11, fun O h => nomatch h⟩
end Mine
end
set_option maxRecDepth 100000 in
set_option maxHeartbeats 8000000 in
theorem PySem.Challenge.cw_nt0023_01_holds : PySem.Challenge.rw_nt0023_01.Holds := by
  exact Mine.lawD fun ns hn => by
    obtain ⟨d, H', e, rfl⟩ := Mine.law_all (n := 0) hn
    exact ⟨H', e⟩
