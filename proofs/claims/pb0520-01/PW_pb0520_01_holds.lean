import PyProof.Rows.All
import KE.KLam
import KE.KDictSum
import KE.KDictOf
import KE.KEqDict
import KE.KIsBytes
import KE.KNestM
import KE.KRevSl
import Lean
import PySem.Challenge.RW_pb0520_01
set_option Elab.async false
set_option linter.unusedVariables false
set_option genSizeOf false
set_option genInjectivity false
open Nat renaming le_trans->nA,le_refl->nB,le_of_ble_eq_true->nC,lt_of_lt_of_le->nD,eq_of_beq_eq_true->nE,lt_of_le_of_lt->nF,le_of_eq->nG,ne_of_lt->nH,ble_eq_true_of_le->nJ,not_lt->nK,add_le_add_left->nM,le_of_succ_le->nO,le_add_right->nP,lt_succ_self->nQ,lt_irrefl->nT,le_of_lt->nU,zero_le->nV,not_lt_zero->nW,lt_succ_of_lt->nX
open List renaming length_map->nY,mem_cons->nZ,getElem?_eq_getElem->nA1,nodup_cons->nB1,all_eq_true->nC1,map_cons->nD1
open PySem renaming wpAny_bind->nE1,wpAny_pure->nF1,wpAny_holding->nG1,wpAny_ite_split->nH1
open PySem PySem.W PyProof.Rows
namespace Mine
section
theorem oJ {α:Type _} {a b:α} (h:some a=some b):a=b:=Option.some.inj h
theorem eX1 {α0:Sort _} {P:α0->Prop} {C:Prop} (h:∃ a0,P a0) (f:∀ a0,P a0->C):C:=h.elim f
theorem eX2 {α0 α1:Sort _} {P:α0->α1->Prop} {C:Prop} (h:∃ a0 a1,P a0 a1) (f:∀ a0 a1,P a0 a1->C):C:=eX1 h fun a0 h=>eX1 h (f a0)
theorem eX3 {α0 α1 α2:Sort _} {P:α0->α1->α2->Prop} {C:Prop} (h:∃ a0 a1 a2,P a0 a1 a2) (f:∀ a0 a1 a2,P a0 a1 a2->C):C:=eX2 h fun a0 a1 h=>eX1 h (f a0 a1)
theorem eX4 {α0 α1 α2 α3:Sort _} {P:α0->α1->α2->α3->Prop} {C:Prop} (h:∃ a0 a1 a2 a3,P a0 a1 a2 a3) (f:∀ a0 a1 a2 a3,P a0 a1 a2 a3->C):C:=eX3 h fun a0 a1 a2 h=>eX1 h (f a0 a1 a2)
theorem eX5 {α0 α1 α2 α3 α4:Sort _} {P:α0->α1->α2->α3->α4->Prop} {C:Prop} (h:∃ a0 a1 a2 a3 a4,P a0 a1 a2 a3 a4) (f:∀ a0 a1 a2 a3 a4,P a0 a1 a2 a3 a4->C):C:=eX4 h fun a0 a1 a2 a3 h=>eX1 h (f a0 a1 a2 a3)
theorem eX7 {α0 α1 α2 α3 α4 α5 α6:Sort _} {P:α0->α1->α2->α3->α4->α5->α6->Prop} {C:Prop} (h:∃ a0 a1 a2 a3 a4 a5 a6,P a0 a1 a2 a3 a4 a5 a6) (f:∀ a0 a1 a2 a3 a4 a5 a6,P a0 a1 a2 a3 a4 a5 a6->C):C:=eX5 h fun a0 a1 a2 a3 a4 h=>eX2 h (f a0 a1 a2 a3 a4)
theorem eX9 {α0 α1 α2 α3 α4 α5 α6 α7 α8:Sort _} {P:α0->α1->α2->α3->α4->α5->α6->α7->α8->Prop} {C:Prop} (h:∃ a0 a1 a2 a3 a4 a5 a6 a7 a8,P a0 a1 a2 a3 a4 a5 a6 a7 a8) (f:∀ a0 a1 a2 a3 a4 a5 a6 a7 a8,P a0 a1 a2 a3 a4 a5 a6 a7 a8->C):C:=eX7 h fun a0 a1 a2 a3 a4 a5 a6 h=>eX2 h (f a0 a1 a2 a3 a4 a5 a6)
theorem eX12 {α0 α1 α2 α3 α4 α5 α6 α7 α8 α9 α10 α11:Sort _} {P:α0->α1->α2->α3->α4->α5->α6->α7->α8->α9->α10->α11->Prop} {C:Prop} (h:∃ a0 a1 a2 a3 a4 a5 a6 a7 a8 a9 a10 a11,P a0 a1 a2 a3 a4 a5 a6 a7 a8 a9 a10 a11) (f:∀ a0 a1 a2 a3 a4 a5 a6 a7 a8 a9 a10 a11,P a0 a1 a2 a3 a4 a5 a6 a7 a8 a9 a10 a11->C):C:=eX9 h fun a0 a1 a2 a3 a4 a5 a6 a7 a8 h=>eX3 h (f a0 a1 a2 a3 a4 a5 a6 a7 a8)
theorem eX15 {α0 α1 α2 α3 α4 α5 α6 α7 α8 α9 α10 α11 α12 α13 α14:Sort _} {P:α0->α1->α2->α3->α4->α5->α6->α7->α8->α9->α10->α11->α12->α13->α14->Prop} {C:Prop} (h:∃ a0 a1 a2 a3 a4 a5 a6 a7 a8 a9 a10 a11 a12 a13 a14,P a0 a1 a2 a3 a4 a5 a6 a7 a8 a9 a10 a11 a12 a13 a14) (f:∀ a0 a1 a2 a3 a4 a5 a6 a7 a8 a9 a10 a11 a12 a13 a14,P a0 a1 a2 a3 a4 a5 a6 a7 a8 a9 a10 a11 a12 a13 a14->C):C:=eX12 h fun a0 a1 a2 a3 a4 a5 a6 a7 a8 a9 a10 a11 h=>eX3 h (f a0 a1 a2 a3 a4 a5 a6 a7 a8 a9 a10 a11)
theorem eD2 {p0 p1 C:Prop} (h:p0/\p1) (f:p0->p1->C):C:=f h.1 h.2
theorem eD3 {p0 p1 p2 C:Prop} (h:p0/\p1/\p2) (f:p0->p1->p2->C):C:=eD2 h.2 (f h.1)
theorem eD4 {p0 p1 p2 p3 C:Prop} (h:p0/\p1/\p2/\p3) (f:p0->p1->p2->p3->C):C:=eD3 h fun p0 p1 h=>eD2 h (f p0 p1)
theorem eD5 {p0 p1 p2 p3 p4 C:Prop} (h:p0/\p1/\p2/\p3/\p4) (f:p0->p1->p2->p3->p4->C):C:=eD4 h fun p0 p1 p2 h=>eD2 h (f p0 p1 p2)
theorem eD6 {p0 p1 p2 p3 p4 p5 C:Prop} (h:p0/\p1/\p2/\p3/\p4/\p5) (f:p0->p1->p2->p3->p4->p5->C):C:=eD5 h fun p0 p1 p2 p3 h=>eD2 h (f p0 p1 p2 p3)
theorem eD7 {p0 p1 p2 p3 p4 p5 p6 C:Prop} (h:p0/\p1/\p2/\p3/\p4/\p5/\p6) (f:p0->p1->p2->p3->p4->p5->p6->C):C:=eD6 h fun p0 p1 p2 p3 p4 h=>eD2 h (f p0 p1 p2 p3 p4)
theorem eD8 {p0 p1 p2 p3 p4 p5 p6 p7 C:Prop} (h:p0/\p1/\p2/\p3/\p4/\p5/\p6/\p7) (f:p0->p1->p2->p3->p4->p5->p6->p7->C):C:=eD7 h fun p0 p1 p2 p3 p4 p5 h=>eD2 h (f p0 p1 p2 p3 p4 p5)
theorem eD11 {p0 p1 p2 p3 p4 p5 p6 p7 p8 p9 p10 C:Prop} (h:p0/\p1/\p2/\p3/\p4/\p5/\p6/\p7/\p8/\p9/\p10) (f:p0->p1->p2->p3->p4->p5->p6->p7->p8->p9->p10->C):C:=eD8 h fun p0 p1 p2 p3 p4 p5 p6 h=>eD4 h (f p0 p1 p2 p3 p4 p5 p6)
end
section
theorem om1 {c d j:Nat} (q:Nat.blt d c=true):c+3*j≠d:=Nat.ne_of_gt (nD (nC q) (nP c (3*j)))
theorem om2 {c j i:Nat} (h:j≠i):c+3*j≠c+3*i:=fun e=>h (Nat.eq_of_mul_eq_mul_left (by decide:0 < 3) (Nat.add_left_cancel e))
theorem om3 {j i:Nat}:5+3*j≠4+3*i:=by omega
theorem om4 {j i:Nat}:4+3*j≠5+3*i:=fun e=>om3 e.symm
theorem om5 {i a b c:Nat} (h:i < a) (q:Nat.blt (c+3*(a - 1)) b=true):c+3*i < b:=nF (nM (Nat.mul_le_mul_left 3 (Nat.le_sub_one_of_lt h)) c) (nC q)
theorem om6 {i a b c m:Nat} (h:i < a) (hm:b<=m) (q:Nat.blt (c+3*(a - 1)) b=true):(c+3*i).succ<=m:=nD (om5 h q) hm
theorem om7 {a k b:Nat} (h:a<=k) (q:Nat.blt b a=true):b < k:=nD (nC q) h
theorem om8 {a x k b:Nat} (h:a+x<=k) (q:Nat.blt b a=true):b < k:=nD (nC q) (nA (nP ..) h)
theorem om9 {b c x:Nat} (q:Nat.blt b c=true):b < c+x:=nD (nC q) (nP ..)
theorem om11 {m a b:Nat} (h:m<=a) (q:Nat.ble a b=true):m<=b:=nA h (nC q)
theorem om12 {m a b:Nat} (h:m<=a) (q:Nat.blt a b=true):m < b:=nF h (nC q)
theorem om13 {m a b:Nat} (h:m < a) (q:Nat.ble a b=true):m<=b:=nU (nD h (nC q))
theorem om14 {m a b:Nat} (h:m < a) (q:Nat.ble a b=true):m < b:=nD h (nC q)
theorem om15 {m a b:Nat} (h:m < a) (q:Nat.ble a b=true):m≠b:=nH (om14 h q)
theorem om16 {m a:Nat} {c d:Int} (h:m<=a) (q:decide (c<=0/\(a:Int)<=d)=true):c<=m/\(m:Int)<=d:=have q:=of_decide_eq_true q;⟨Int.le_trans q.1 (Int.natCast_nonneg _),Int.le_trans (Int.ofNat_le.mpr h) q.2⟩
theorem om17 {m a:Nat} {c d:Int} (h:m < a) (q:decide (c<=0/\(a:Int)<=d)=true):c<=m/\(m:Int)<=d:=om16 (nU h) q
theorem om18 {x a b c d:Int} (h:a<=x/\x<=b) (q:decide (c<=a/\b<=d)=true):c<=x/\x<=d:=have q:=of_decide_eq_true q;⟨Int.le_trans q.1 h.1,Int.le_trans h.2 q.2⟩
theorem om19 {x a b c d:Int} (h:a<=x/\x < b) (q:decide (c<=a/\b<=d)=true):c<=x/\x<=d:=om18 ⟨h.1,Int.le_of_lt h.2⟩ q
theorem om20 {x a b c d:Int} (h:a<=x) (h1:x < b) (q:decide (c<=a/\b<=d)=true):c<=x/\x<=d:=om18 ⟨h,Int.le_of_lt h1⟩ q
theorem om21 {x a b c d:Int} (h:a<=x) (h1:x < b) (q:decide (c<=a/\b<=d)=true):c<=x+0/\x+0<=d:=(Int.add_zero x).symm▸om20 h h1 q
theorem om22 {x a b c d k:Int} (h:a<=x/\x<=b) (q:decide (0<=k/\c<=k*a/\k*b<=d)=true):c<=k*x/\k*x<=d :=
 have q:=of_decide_eq_true q
 ⟨Int.le_trans q.2.1 (Int.mul_le_mul_of_nonneg_left h.1 q.1),Int.le_trans (Int.mul_le_mul_of_nonneg_left h.2 q.1) q.2.2⟩
theorem om23 {x a b c d k:Int} (h:a<=x/\x < b) (q:decide (0<=k/\c<=k*a/\k*b<=d)=true):c<=k*x/\k*x<=d:=om22 ⟨h.1,Int.le_of_lt h.2⟩ q
theorem om24 {x a b c d k:Int} (h:a<=x/\x < b) (q:decide (0<=k/\c<=k*a/\k*b<=d)=true):c<=x*k/\x*k<=d:=Int.mul_comm x k▸om23 h q
theorem om25 {x a b k:Int} (h:a<=x/\x<=b) (q:decide (0<=k/\0<=a)=true):0<=k*x:=have q:=of_decide_eq_true q;Int.mul_nonneg q.1 (Int.le_trans q.2 h.1)
theorem om26 {x a b k d:Int} (h:a<=x/\x<=b) (q:decide (0<=k/\k*b < d)=true):k*x < d:=have q:=of_decide_eq_true q;Int.lt_of_le_of_lt (Int.mul_le_mul_of_nonneg_left h.2 q.1) q.2
theorem om28 {x a b d:Int} (h:a<=x/\x<=b) (q:decide (b<=d)=true):x<=d:=Int.le_trans h.2 (of_decide_eq_true q)
theorem om29 {a b:Nat} (e:a=b):(a:Int)=b:=congrArg _ e
theorem om30 {a b:Nat} (h:a≠b):¬(a:Int)=b:=fun e=>h (Int.ofNat.inj e)
theorem om31 {a b:Nat}:(a:Int)=b↔a=b:=Int.ofNat_inj
theorem om32 {a b:Nat}:(a:Int)+1=b+1↔a=b:=⟨fun e=>Nat.succ.inj (Int.ofNat.inj (show ((a+1:Nat):Int)=((b+1:Nat):Int) from e)),fun e=>e▸rfl⟩
theorem om33 {a b:Nat} (h:a≠b):¬(a:Int)+1=b+1:=fun e=>h (om32.mp e)
theorem om34 {a b:Nat} (h:a < b):¬(a:Int)+1=b+1:=om33 (nH h)
theorem om35 {i:Nat}:(i:Int)+1=((i+1:Nat):Int):=rfl
theorem om36 {a b:Nat} (h:(a:Int)+1=b+1):a=b:=om32.mp h
theorem om37 {a m:Nat} (h:a < m):(a:Int) < m:=Int.ofNat_lt.mpr h
theorem om38 {a m:Nat} (h:(a:Int) < m):a < m:=Int.ofNat_lt.mp h
theorem om39 {a:Nat}:(0:Int)<=a:=Int.natCast_nonneg _
theorem om40 {a:Nat}:(0:Int)<=a+1:=Int.natCast_nonneg (a+1)
theorem om41 {a:Nat}:¬(a:Int) < 0:=Int.not_lt.mpr (Int.natCast_nonneg _)
theorem om42 {r:Int} (h:0<=r):r=r.toNat:=(Int.toNat_of_nonneg h).symm
theorem om43 {r:Int} (h:0<=r):(r.toNat:Int)=r:=Int.toNat_of_nonneg h
theorem om44 {x y:Int} (h:x<=y):¬y < x:=Int.not_lt.mpr h
theorem om45 {x y:Int} (h:x < y):¬y<=x:=Int.not_le.mpr h
theorem om46 {x y:Int} (h:¬x < y):y<=x:=Int.not_lt.mp h
theorem om47 {x y:Int} (h:x=y):¬x < y:=fun q=>Int.lt_irrefl _ (h▸q)
theorem om48 {x y:Int} (h:¬x=y) (h1:x<=y):x < y:=Int.lt_iff_le_and_ne.mpr ⟨h1,h⟩
theorem om49 {a b:Nat} (h:b < a):¬(a:Int)=b:=om30 (Nat.ne_of_gt h)
theorem om51 {m a N:Nat} (h:m<=a) (q:Nat.blt a N=true):(m:Int).natAbs.succ<=N:=nF h (nC q)
theorem om57 {x a b:Int} (h:a<=x) (q:decide (b<=a)=true):b<=x:=Int.le_trans (of_decide_eq_true q) h
theorem om58 {x a b:Int} (h:x<=a) (q:decide (a < b)=true):x < b:=Int.lt_of_le_of_lt h (of_decide_eq_true q)
theorem om59 {x a b:Int} (h:x < a) (q:decide (a<=b)=true):x < b:=Int.lt_of_lt_of_le h (of_decide_eq_true q)
theorem om60 {x a b:Int} (h:x < a) (q:decide (a<=b)=true):x<=b:=Int.le_of_lt (om59 h q)
theorem om61 {a b c:Nat} (h:a<=b) (h1:b<=c) (d:Nat) (q:Nat.blt c d=true):a < d:=nF (nA h h1) (nC q)
theorem om62 {a b c:Nat} {x y:Int} (h:a<=b) (h1:b<=c) (q:decide (x<=0/\(c:Int)<=y)=true):x<=a/\(a:Int)<=y:=om16 (nA h h1) q
theorem om63 {a b c:Nat} (h:a < b) (h1:b<=c):a < c:=nD h h1
theorem om64 {a b c:Nat} (h:a=b) (h1:c < b):c < a:=h▸h1
theorem om65 {a b c:Nat} (h:a=b) (h1:c < b):c<=a:=nU (h▸h1)
theorem om66 {a b:Nat} (h:a=b):b<=a:=nG h.symm
theorem om67 {a b:Nat} (h:a<=b) (h1:b<=a):a=b:=Nat.le_antisymm h h1
theorem om69 {a b c:Nat} (h:a < b) (h1:b < c):a < c:=Nat.lt_trans h h1
theorem om71 {j i:Nat} (h:j < i+1) (e:¬j=i):j < i:=Nat.lt_of_le_of_ne (Nat.le_of_lt_succ h) e
theorem om72 {j i:Nat} (h:j < i+1) (e:¬j=i):4+3*j < 4+3*i:=nD (Nat.add_lt_add_left (Nat.lt_add_of_pos_right (by decide:0 < 3)) 4) (nM (Nat.mul_le_mul_left 3 (om71 h e)) 4)
theorem om73 {j i:Nat} (h:j < i+1) (e:¬j=i):5+3*j < 4+3*i:=nD (Nat.add_lt_add_right (by decide:5 < 4+3) (3*j) |> fun q=>Nat.add_right_comm 4 3 (3*j)▸q) (nM (Nat.mul_le_mul_left 3 (om71 h e)) 4)
theorem om74 {j i k:Nat} (h:3+3*i<=k) (e:j < i):4+3*j < k:=by omega
theorem om75 {j i k:Nat} (h:3+3*i<=k) (e:j < i):5+3*j < k:=by omega
theorem om77 {j i:Nat} (h:j < i):j<=i - 1:=Nat.le_pred_of_lt h
theorem om78 {i:Nat} (h:¬i=0):i - 1 < i:=Nat.sub_one_lt h
theorem om79 {i n:Nat} (hi:i<=n) (h:¬i=0):i - 1 < n:=nD (Nat.sub_one_lt h) hi
theorem om80 {l h:Nat} (q:l < h):(l+h) / 2 < h:=Nat.div_lt_of_lt_mul (by rw [Nat.two_mul];exact Nat.add_lt_add_right q h)
theorem om81 {l h:Nat} (q:l<=h):l<=(l+h) / 2:=(Nat.le_div_iff_mul_le (by decide)).mpr (by rw [Nat.mul_two];exact nM q l)
theorem om82 {l h n:Nat} (q:h<=n) (q1:l < h):(l+h) / 2 < n:=nD (om80 q1) q
theorem om84 {l h f:Nat} (q:h - l<=f+1):h - ((l+h) / 2+1)<=f:=by omega
theorem om85 {l h f:Nat} (q:h - l<=f+1):(l+h) / 2 - l<=f:=by omega
theorem om86 {l h n:Nat} (q:l<=h) (q1:h<=n):(l+h) / 2<=n:=nA (Nat.div_le_of_le_mul (by rw [Nat.two_mul];exact Nat.add_le_add_right q h)) q1
theorem om87 {l f:Nat} (q:l<=f+1):l - 1<=f:=Nat.sub_le_of_le_add q
theorem om88 {l h:Nat} (q:l<=h) (q1:h - l<=0):l=h:=Nat.le_antisymm q (Nat.sub_eq_zero_iff_le.mp (Nat.le_zero.mp q1))
theorem om89 {n:Nat}:n<=n - 1+1:=Nat.sub_le_iff_le_add.mp (nB _)
theorem om91 {x:Int} {m:Nat} (h:0<=x/\x < m):x.toNat < m:=(Int.toNat_lt h.1).mpr h.2
end
section
theorem om94 {i:Int} {N:Nat} (h:i.natAbs < N) (q:Nat.ble N 9223372036854775808=true):-2 ^ 63<=i:=by have:=nC q;omega
theorem om95 {i:Int} {N:Nat} (h:i.natAbs < N) (q:Nat.ble N 9223372036854775808=true):i < 2 ^ 63:=Int.lt_of_le_of_lt Int.le_natAbs (Int.lt_of_lt_of_le (Int.ofNat_lt.mpr h) (Int.le_trans (Int.ofNat_le.mpr (nC q)) (by decide)))
theorem om96 {x:Int} (h:2<=x/\x<=8):0<=min (max (2*x) 8) 65535 - x/\min (max (2*x) 8) 65535 - x<=14:=by omega
theorem om97 {x c d:Int} (h:2<=x/\x<=8) (q:decide (0<=(16:Int)/\c<=16*0/\16*14<=d)=true):c<=16*(min (max (2*x) 8) 65535 - x)/\16*(min (max (2*x) 8) 65535 - x)<=d:=om22 (om96 h) q
theorem om98 {i b:Int} (h:-b<=i/\i<=b) (q:decide (b < 1152921504606846976)=true):i.natAbs+1<=2 ^ 60:=by have:=of_decide_eq_true q;omega
theorem om99 {a b c d:Nat} (h:a < b) (h1:b<=c) (q:Nat.ble c d=true):a<=d:=nA (nU h) (nA h1 (nC q))
theorem om100 {m:Nat} {b x y:Int} (h:(m:Int) < b) (q:decide (x<=0/\b<=y)=true):x<=m/\(m:Int)<=y:=have q:=of_decide_eq_true q;⟨Int.le_trans q.1 om39,Int.le_of_lt (Int.lt_of_lt_of_le h q.2)⟩
theorem om101 {m n:Nat} (h:(m:Int) < 10) (q:Nat.ble 13 n=true):3+m<=n:=nA (nM (nU (Int.ofNat_lt.mp h)) 3) (nC q)
theorem om102 {m:Nat} {x y:Int} (h:(m:Int) < 10) (q:decide (x<=0/\((13:Nat):Int)<=y)=true):x<=((3+m:Nat):Int)/\((3+m:Nat):Int)<=y:=om16 (om101 h (n:=13) rfl) q
theorem om103 {i:Nat} {c d:Int} (q:decide (c<=0/\((3:Nat):Int)<=d)=true):c<=((i % 3:Nat):Int)/\((i % 3:Nat):Int)<=d:=om17 (Nat.mod_lt i (by decide)) q
theorem om104n:∀ {n:Nat},n < 3->(2+(n:Int)=2∨2+(n:Int)=3∨2+(n:Int)=4∨2+(n:Int)=8)
 | 0,_=>.inl rfl
 | 1,_=>.inr (.inl rfl)
 | 2,_=>.inr (.inr (.inl rfl))
 | _+3,h=>absurd h (nK.mpr (Nat.le_add_left ..))
theorem om104 {i:Nat}:2+((i % 3:Nat):Int)=2∨2+((i % 3:Nat):Int)=3∨2+((i % 3:Nat):Int)=4∨2+((i % 3:Nat):Int)=8:=om104n (Nat.mod_lt i (by decide))
theorem om105 {v n d j:Nat} (h1:v<=n) (h2:n - v<=d) (h3:d<=n) (q:¬j < v):j - (n - d)=d - (n - v)+(j - v):=by
 rw [<- Nat.sub_add_sub_cancel (nK.mp q) (Nat.sub_le_iff_le_add.mpr (Nat.sub_le_iff_le_add'.mp h2)),Nat.add_comm,Nat.sub_sub_right _ h3,Nat.sub_sub_right _ h1,Nat.add_comm v]
theorem om106 {a b:Int} (h:a.natAbs < 1000000000) (h1:b.natAbs < 1000000000):b - a - 1 < 2000000000:=by omega
theorem om109 {a b x y:Nat} (q:Nat.ble a b=true):a<=b+x+y:=nA (nC q) (nA (nP b x) (nP ..))
theorem om110 {a b x:Nat} (q:Nat.ble a b=true):a+x<=b+x:=Nat.add_le_add_right (nC q) x
theorem om111 {x:Nat}:5+x=4+x+1:=(Nat.add_right_comm 4 x 1).symm
theorem om112 {i:Nat} {s:Int} (h:0<=s/\s<=4*i) (hi:i < 5):0<=s/\s<=16:=⟨h.1,Int.le_trans h.2 (Int.mul_le_mul_of_nonneg_left (Int.ofNat_le.mpr (Nat.le_of_lt_succ hi)) (by decide):(4:Int)*i<=4*(4:Nat))⟩
theorem om113 {i:Nat} {s c d:Int} (h:0<=s/\s<=4*i) (hi:i < 5) (q:decide (0<=(16:Int)/\c<=16*0/\16*16<=d)=true):c<=16*s/\16*s<=d:=om22 (om112 h hi) q
theorem om114 {i:Nat} {s d:Int} (h:0<=s/\s<=4*i) (hi:i < 5) (q:decide (0<=(16:Int)/\16*16 < d)=true):16*s < d:=om26 (om112 h hi) q
theorem om115 {x:Int} (h:2<=x/\x<=8):0<=16*(min (max (2*x) 8) 65535 - x):=om25 (om96 h) rfl
theorem om116 {x d:Int} (h:2<=x/\x<=8) (q:decide (0<=(16:Int)/\16*14 < d)=true):16*(min (max (2*x) 8) 65535 - x) < d:=om26 (om96 h) q
theorem om117 {x c d:Int} (h:2<=x/\x<=8) (q:decide (c<=0/\14<=d)=true):c<=min (max (2*x) 8) 65535 - x/\min (max (2*x) 8) 65535 - x<=d:=om18 (om96 h) q
theorem om118 {x m d:Int} (h:x < d):min x m < d:=Int.lt_of_le_of_lt (Int.min_le_left ..) h
theorem om119 {x m d:Int} (h:m < d):min x m < d:=Int.lt_of_le_of_lt (Int.min_le_right ..) h
theorem om120 {x m:Int}:min x m<=x:=Int.min_le_left ..
theorem om121 {m:Nat}:((m:Int) - 0 - 1+1).toNat=m:=by rw [Int.sub_zero,Int.sub_add_cancel,Int.toNat_natCast]
theorem om122 {m:Nat}:((m:Int) - 1 - -1 - 1+1).toNat=m:=by rw [Int.sub_add_cancel,Int.sub_neg,Int.sub_add_cancel,Int.toNat_natCast]
theorem om123 {i b:Int} {P:Prop} (h:0 < i/\i < b/\P) (q:decide (b<=1000000)=true):-9223372036854775808<=i/\i < 9223372036854775808:=⟨Int.le_trans (by decide) (Int.le_of_lt h.1),Int.lt_trans (Int.lt_of_lt_of_le h.2.1 (of_decide_eq_true q)) (by decide)⟩
theorem om124 {a b c:Nat} (h:a=b) (h1:b<=c) (d:Nat) (q:Nat.blt c d=true):a < d:=h▸nF h1 (nC q)
theorem om125 {a b:Nat} (h:a - b=0):a<=b:=Nat.sub_eq_zero_iff_le.mp h
theorem om126 {x u a c:Int} (h:u < x) (h1:a < x) (q:decide (x+x<=c)=true):¬c < u+0+a:=Int.not_lt.mpr (by rw [Int.add_zero];exact Int.le_trans (Int.le_of_lt (Int.add_lt_add h h1)) (of_decide_eq_true q))
theorem om129 {x:Int} {n:Nat} (h:0<=x+n):-(n:Int)<=x:=by omega
theorem om130 {i c:Nat} (h:i+(c+1)=5):i+1+c=5:=(Nat.add_right_comm i 1 c).trans h
theorem om131 {i c:Nat} (h:i+(c+1)=5):i < 5:=h▸Nat.lt_add_of_pos_right (Nat.succ_pos c)
theorem om132 {k:Nat}:k+1+1<=k+1+1+1+1:=nP (k+1+1) 2
theorem om133 {k:Nat}:k+1+1 < k+1+1+1+1:=Nat.lt_succ_of_le (Nat.le_succ _)
theorem om134 {a b:Nat}:a < (a+b).succ:=Nat.lt_succ_of_le (nP ..)
theorem om135 {i:Nat}:(0:Int)+1*i=i:=by rw [Int.zero_add,Int.one_mul]
theorem om137 {r:Int} (h:0<=r):4<=4+r:=Int.le_add_of_nonneg_right h
theorem om138 {r:Int} (h:r < 3):4+r<=6:=have h:r<=2:=Int.le_of_lt_add_one h;Int.add_le_add_left h 4
theorem om141 {x a b c d k:Int} (h:a<=x/\x<=b) (q:decide (0<=k/\c<=k*a/\k*b<=d)=true):c<=k*x+0/\k*x+0<=d:=(Int.add_zero (k*x)).symm▸om22 h q
theorem om142 {x c:Int} (h:10<=x/\x<=40) (h1:c < 1000):¬16777216 < 16*x+0+c:=Int.not_lt.mpr (Int.le_trans (Int.add_le_add (om141 (c:=0) (d:=640) h rfl).2 (Int.le_of_lt h1)) (by decide))
theorem om143 {x:Int} (h:2<=x/\x<=8):¬min (max (2*x) 8) 65535<=x:=by omega
theorem om144 {y c d:Int} (q:decide (c<=8/\65535<=d)=true):c<=min (max y 8) 65535/\min (max y 8) 65535<=d:=have q:=of_decide_eq_true q;⟨Int.le_min.mpr ⟨Int.le_trans q.1 (Int.le_max_right y 8),Int.le_trans q.1 (by decide)⟩,Int.le_trans (Int.min_le_right _ _) q.2⟩
theorem om145 {i:Nat}:2<=2+((i % 3:Nat):Int)/\2+((i % 3:Nat):Int)<=4:=⟨Int.le_add_of_nonneg_right om39,have h:((i % 3:Nat):Int)<=(2:Nat):=Int.ofNat_le.mpr (Nat.le_of_lt_succ (Nat.mod_lt i (by decide)));Int.add_le_add_left h 2⟩
theorem om146 {x b d k:Int} (h:0<=x) (h1:x < b) (q:decide (0<=k/\b+k<=d)=true):0<=x+k/\x+k < d:=have q:=of_decide_eq_true q;⟨Int.add_nonneg h q.1,Int.lt_of_lt_of_le (Int.add_lt_add_right h1 k) q.2⟩
theorem om147 {a n:Nat}:a+1+20*n+10<=a+20*(n+1):=by rw [Nat.add_right_comm a 1];exact nM (by decide:11<=20) (a+20*n)
theorem om148 {a n:Nat}:a+3+100*n+50<=a+100*(n+1):=by rw [Nat.add_right_comm a 3];exact nM (by decide:53<=100) (a+100*n)
theorem om149 {a n:Nat} (h:a+100*n+50<=5000):a+50<=5000:=nA (Nat.add_le_add_right (nP a _) 50) h
theorem om150 {x:Int} {n:Nat} (h:x < n) (q:Nat.blt 0 n=true):x.toNat < n:=by have:=nC q;omega
theorem om151 {a b:Int}:a=b+(a - b):=by rw [Int.add_comm,Int.sub_add_cancel]
theorem om152 {a b c:Int}:c+a=c+b+(a - b):=by rw [Int.add_assoc,<- om151]
theorem om153s {x y d f:Int} (h:x=y+d):x+f=y+f+d:=by rw [h,Int.add_right_comm]
theorem om153 {x:Int} (h:x<=4):min (max (2*x) 8) 65535=8:=by rw [Int.max_eq_right (show 2*x<=8 from Int.mul_le_mul_of_nonneg_left h (by decide)),Int.min_eq_left (by decide)]
theorem om154 {x m:Int}:16*x+16*(m - x)=16*m:=by rw [<- Int.mul_add,<- om151]
theorem om158 {x y a b c d e f:Int} (h:a<=x/\x<=b) (g:c<=y/\y<=d) (q:decide (e<=a+c/\b+d<=f)=true):e<=x+y/\x+y<=f:=have q:=of_decide_eq_true q;⟨Int.le_trans q.1 (Int.add_le_add h.1 g.1),Int.le_trans (Int.add_le_add h.2 g.2) q.2⟩
theorem om159 {x c d:Int} {n:Nat} (h:0<=x/\x<=4*n) (hd:n<=6) (q:decide (c<=0/\24<=d)=true):c<=x/\x<=d:=have q:=of_decide_eq_true q;⟨Int.le_trans q.1 h.1,Int.le_trans h.2 (Int.le_trans (Int.mul_le_mul_of_nonneg_left (Int.ofNat_le.mpr hd) (by decide)) q.2)⟩
end
section
inductive AV where
 | none
 | bool (b:Bool)
 | int (i:Int)
 | str (s:Str)
 | bytes (b:List UInt8)
 | fn (f:Nat)
 | cls (c:Nat)
 | blt (n:Nat)
 | typ (n:Nat)
 | cell (i:Nat)
 | tup (vs:List AV)
 | lst (vs:List AV)
 | inst (c:Nat) (fs:List (Nat×AV))
 | clo (l:Nat) (caps:List AV)
 | rng (a b c:Int)
 | set (vs:List Int)
inductive Cell where
 | list (vs:List AV)
 | dict (kd:Nat) (es:List (AV×AV)) (ep:Nat)
 | inst (c:Nat) (fs:List (Nat×AV))
abbrev Store:=Nat->Option Cell
noncomputable def upd (σ:Store) (i:Nat) (c:Cell):Store:=fun j=>if j=i then some c else σ j
noncomputable def del (σ:Store) (i:Nat):Store:=fun j=>if j=i then none else σ j
noncomputable def restr (k:Nat) (σ:Store):Store:=fun j=>if j < k then σ j else none
abbrev Vars:=List (Option AV)
abbrev PostV:=AV->Nat->Store->Prop
inductive T where
 | loc (i:Nat)
 | cel (i:Nat)
 | tup (ts:T)
 | nil
 | cons (t ts:T)
inductive E where
 | cst (c:Const)
 | glb (i:Nat)
 | loc (i:Nat)
 | bin (m:Bool) (op:Operator) (a b:E)
 | not (a:E)
 | neg (a:E)
 | bop (op:BoolOp) (es:E)
 | ife (t a b:E)
 | cmp (op:CmpOp) (a b:E)
 | tup (es:E)
 | lst (m:Bool) (es:E)
 | dct (kd:Nat) (ks:List Const) (vs:E)
 | attr (e:E) (x:Nat)
 | sub (e i:E)
 | upto (m:Bool) (e hi:E)
 | rev (e st:E)
 | call (f args:E)
 | meth (o:E) (x:Nat) (args:E)
 | comp (m:Bool) (elt:E) (t:T) (src ifs:E) (n:Nat) (caps:List (Nat×Nat))
 | lam (l:Nat) (caps:List Nat)
 | bad
 | nil
 | cons (e es:E)
inductive G where
 | simple (t:T)
 | attr (o:E) (x:Nat)
 | sub (o i:E)
 | tup (n:Nat) (gs:G)
 | nil
 | cons (g gs:G)
inductive S where
 | expr (e:E)
 | asg (g:G) (e:E)
 | aug (i:Nat) (op:Operator) (e:E)
 | ifs (t:E) (a b:S)
 | for (t:T) (it:E) (b:S)
 | ret (e:E)
 | raise (e:E)
 | tryret (e:E) (x:Nat)
 | bad
 | nil
 | cons (s ss:S)
structure Fn where
 n:Nat
 params:List Nat
 dflts:List AV
 body:S
 keep:Bool
structure Lm where
 n:Nat
 params:List Nat
 caps:List Nat
 body:E
noncomputable def anames:List String:=["told","kind","value","is_exec","access","number","most","is_global","level","entries","body","start","many","get","pairs","append","limits","put_entry","things","pop","find","current","where","to_list","dicts","begin","memory","operands","scanner","disk","files","out","frames","table","system","globals","user","gs","gstack","device","fonts","resources","steps","random","is_packing","is_stopped","tracer","errors","fault","saves","gstates","text","row","word","path","dash","vm","journal","made","freed","used","used_global","last_body","last_save","check_room","body_level","take_room","is_elder","check_holds","grow","end","store","define","drop_entry","cut_to_three","set_access","load","holds","names_seen","hidden","make_dict"]
noncomputable def bnames:List String:=["len","sorted","max","min","isinstance","sum"]
noncomputable def tnames:List String:=["list","range","bytes","dict","set","int","tuple"]
noncomputable def gnames:List String:=["integer","name","of_dict","is_number","in_millionths","is_in_array","body_of","is_local","access_of","can_read","can_write","thing_octets","key_of","key_thing","dict_length","dict_check_read","dict_check_write","dict_get_word","dict_rows","dict_names","dict_put_all","dict_copy","dict_are_same","dict_is_like","standard_names","dict_forall_pairs","dictops_counted","memory_check_many","_law_draw","_law_key","_law_told","_law_due","_law_put","_law_find","_law_word","_law_begin_right","_law_end_right","_law_define_right","_law_copy_right","_law_deed_right","_law_keys_right","_law_names","_law_body_right","_law_stack_right","law",
 "PsError","Thing","DictBody","DictStack","MachineCore","Limits","Memory",
 "len","sorted","max","min","isinstance","sum",
 "list","range","bytes","dict","set","int","tuple",
 "GRAIN","RUN_ONLY","READ_ONLY","UNLIMITED","PERMANENT","FIRST_SEED","ENTRY_COST","MOST_COST","_law_keys"]
noncomputable def nm (x:Nat):Str:=Str.ofString (anames.getD x "")
noncomputable def gname (i:Nat):Str:=Str.ofString (gnames.getD i "")
noncomputable def gvals:List AV:=[.int 1000000,.int 1,.int 2,.int 3,.int 3,.int 1,.int 16,.int 16777216,
 .tup [.tup [.str (.mk #[110,97,109,101]),.bytes [97]],.tup [.str (.mk #[110,97,109,101]),.bytes [98]],.tup [.str (.mk #[110,97,109,101]),.bytes [99,99]],.tup [.str (.mk #[105,110,116,101,103,101,114]),.int 7]]]
noncomputable def gval (i:Nat):AV:=cond (Nat.blt i 45) (.fn i) (cond (Nat.blt i 52) (.cls (i - 45)) (cond (Nat.blt i 58) (.blt (i - 52)) (cond (Nat.blt i 65) (.typ (i - 58)) (gvals.getD (i - 65) .none))))
noncomputable def mplace (p:Pos):Bool:=[(150,12),(193,22),(225,22),(949,11),(952,43),(952,61)].contains (p.line,p.col)
noncomputable def mplaceL (p:Pos):Bool:=mplace p&&!Nat.beq p.endCol 46
noncomputable def dplace (p:Pos):Nat:=([((952,12),2),((263,16),1),((271,27),1),((271,31),0),((613,20),0),((941,12),1)].lookup (p.line,p.col)).getD 3
abbrev Names:=List (Str×NameKind)
noncomputable def lamHeads:List (List String):=[["state","stack","things","which","told"],["state","stack","things","told","which"],["state","stack","memory","number","value"],["state","memory","things","source","target"],["state","stack","things","number","found"],["state","things","which","body","due"],["state","stack","things","which","bodies"]]
noncomputable def lamIdx (ns:Names):Option Nat:=if Nat.ble 7 ns.length then lamHeads.findIdx? fun h=>h.map Str.ofString==(ns.take 5).map (·.1) else none
noncomputable def n1 {α:Type} (_:α):Bool:=false
noncomputable def n2 {α β:Type} (_:α) (_:β):Bool:=false
noncomputable def n3 {α β γ:Type} (_:α) (_:β) (_:γ):Bool:=false
noncomputable def n4 {α β γ δ:Type} (_:α) (_:β) (_:γ) (_:δ):Bool:=false
noncomputable def n5 {α β γ δ ε:Type} (_:α) (_:β) (_:γ) (_:δ) (_:ε):Bool:=false
noncomputable def n6 {α β γ δ ε ζ:Type} (_:α) (_:β) (_:γ) (_:δ) (_:ε) (_:ζ):Bool:=false
noncomputable def n10 {α β γ δ ε ζ η θ ι κ:Type} (_:α) (_:β) (_:γ) (_:δ) (_:ε) (_:ζ) (_:η) (_:θ) (_:ι) (_:κ):Bool:=false
noncomputable def eBoolOp (e:Expr) (c:BoolOp->List Expr->Pos->Bool):Bool:=e.casesOn c n3 n4 n3 n4 n4 n3 n3 n4 n4 n5 n4 n2 n2 n2 n4 n4 n4 n2 n3 n3 n3 n2 n2 n2 n3 n4
noncomputable def eBinOp (e:Expr) (c:Expr->Operator->Expr->Pos->Bool):Bool:=e.casesOn n3 n3 c n3 n4 n4 n3 n3 n4 n4 n5 n4 n2 n2 n2 n4 n4 n4 n2 n3 n3 n3 n2 n2 n2 n3 n4
noncomputable def eUnaryOp (e:Expr) (c:UnaryOp->Expr->Pos->Bool):Bool:=e.casesOn n3 n3 n4 c n4 n4 n3 n3 n4 n4 n5 n4 n2 n2 n2 n4 n4 n4 n2 n3 n3 n3 n2 n2 n2 n3 n4
noncomputable def eLambda (e:Expr) (c:Arguments->Expr->Scope->Pos->Bool):Bool:=e.casesOn n3 n3 n4 n3 c n4 n3 n3 n4 n4 n5 n4 n2 n2 n2 n4 n4 n4 n2 n3 n3 n3 n2 n2 n2 n3 n4
noncomputable def eIfExp (e:Expr) (c:Expr->Expr->Expr->Pos->Bool):Bool:=e.casesOn n3 n3 n4 n3 n4 c n3 n3 n4 n4 n5 n4 n2 n2 n2 n4 n4 n4 n2 n3 n3 n3 n2 n2 n2 n3 n4
noncomputable def eDict (e:Expr) (c:List (Option Expr)->List Expr->Pos->Bool):Bool:=e.casesOn n3 n3 n4 n3 n4 n4 c n3 n4 n4 n5 n4 n2 n2 n2 n4 n4 n4 n2 n3 n3 n3 n2 n2 n2 n3 n4
noncomputable def eListComp (e:Expr) (c:Expr->List Comprehension->Scope->Pos->Bool):Bool:=e.casesOn n3 n3 n4 n3 n4 n4 n3 n3 c n4 n5 n4 n2 n2 n2 n4 n4 n4 n2 n3 n3 n3 n2 n2 n2 n3 n4
noncomputable def eCompare (e:Expr) (c:Expr->List CmpOp->List Expr->Pos->Bool):Bool:=e.casesOn n3 n3 n4 n3 n4 n4 n3 n3 n4 n4 n5 n4 n2 n2 n2 c n4 n4 n2 n3 n3 n3 n2 n2 n2 n3 n4
noncomputable def eCall (e:Expr) (c:Expr->List Expr->List Keyword->Pos->Bool):Bool:=e.casesOn n3 n3 n4 n3 n4 n4 n3 n3 n4 n4 n5 n4 n2 n2 n2 n4 c n4 n2 n3 n3 n3 n2 n2 n2 n3 n4
noncomputable def eConstant (e:Expr) (c:Const->Nat->Pos->Bool):Bool:=e.casesOn n3 n3 n4 n3 n4 n4 n3 n3 n4 n4 n5 n4 n2 n2 n2 n4 n4 n4 n2 c n3 n3 n2 n2 n2 n3 n4
noncomputable def eAttribute (e:Expr) (c:Expr->Str->Pos->Bool):Bool:=e.casesOn n3 n3 n4 n3 n4 n4 n3 n3 n4 n4 n5 n4 n2 n2 n2 n4 n4 n4 n2 n3 c n3 n2 n2 n2 n3 n4
noncomputable def eSubscript (e:Expr) (c:Expr->Expr->Pos->Bool):Bool:=e.casesOn n3 n3 n4 n3 n4 n4 n3 n3 n4 n4 n5 n4 n2 n2 n2 n4 n4 n4 n2 n3 n3 c n2 n2 n2 n3 n4
noncomputable def eStarred (e:Expr) (c:Expr->Pos->Bool):Bool:=e.casesOn n3 n3 n4 n3 n4 n4 n3 n3 n4 n4 n5 n4 n2 n2 n2 n4 n4 n4 n2 n3 n3 n3 c n2 n2 n3 n4
noncomputable def eName (e:Expr) (c:Str->Pos->Bool):Bool:=e.casesOn n3 n3 n4 n3 n4 n4 n3 n3 n4 n4 n5 n4 n2 n2 n2 n4 n4 n4 n2 n3 n3 n3 n2 c n2 n3 n4
noncomputable def eList (e:Expr) (c:List Expr->Pos->Bool):Bool:=e.casesOn n3 n3 n4 n3 n4 n4 n3 n3 n4 n4 n5 n4 n2 n2 n2 n4 n4 n4 n2 n3 n3 n3 n2 n2 c n3 n4
noncomputable def eTuple (e:Expr) (c:List Expr->Nat->Pos->Bool):Bool:=e.casesOn n3 n3 n4 n3 n4 n4 n3 n3 n4 n4 n5 n4 n2 n2 n2 n4 n4 n4 n2 n3 n3 n3 n2 n2 n2 c n4
noncomputable def eSlice (e:Expr) (c:Option Expr->Option Expr->Option Expr->Pos->Bool):Bool:=e.casesOn n3 n3 n4 n3 n4 n4 n3 n3 n4 n4 n5 n4 n2 n2 n2 n4 n4 n4 n2 n3 n3 n3 n2 n2 n2 n3 c
noncomputable def sReturn (s:Stmt) (c:Option Expr->Pos->Bool):Bool:=s.casesOn n10 n10 (fun uu uu uu uu uu uu uu uu uu uu uu=>false) c n2 n3 (fun uu uu uu uu uu uu uu=>false) n4 n5 n5 n5 n4 n4 n3 n3 n3 n3 n5 n5 n3 n2 n4 n2 n2 n2 n1 n1 n1
noncomputable def sAssign (s:Stmt) (c:List Expr->Expr->Pos->Bool):Bool:=s.casesOn n10 n10 (fun uu uu uu uu uu uu uu uu uu uu uu=>false) n2 n2 c (fun uu uu uu uu uu uu uu=>false) n4 n5 n5 n5 n4 n4 n3 n3 n3 n3 n5 n5 n3 n2 n4 n2 n2 n2 n1 n1 n1
noncomputable def sAugAssign (s:Stmt) (c:Expr->Operator->Expr->Pos->Bool):Bool:=s.casesOn n10 n10 (fun uu uu uu uu uu uu uu uu uu uu uu=>false) n2 n2 n3 (fun uu uu uu uu uu uu uu=>false) c n5 n5 n5 n4 n4 n3 n3 n3 n3 n5 n5 n3 n2 n4 n2 n2 n2 n1 n1 n1
noncomputable def sFor (s:Stmt) (c:Expr->Expr->List Stmt->List Stmt->Pos->Bool):Bool:=s.casesOn n10 n10 (fun uu uu uu uu uu uu uu uu uu uu uu=>false) n2 n2 n3 (fun uu uu uu uu uu uu uu=>false) n4 n5 c n5 n4 n4 n3 n3 n3 n3 n5 n5 n3 n2 n4 n2 n2 n2 n1 n1 n1
noncomputable def sIf (s:Stmt) (c:Expr->List Stmt->List Stmt->Pos->Bool):Bool:=s.casesOn n10 n10 (fun uu uu uu uu uu uu uu uu uu uu uu=>false) n2 n2 n3 (fun uu uu uu uu uu uu uu=>false) n4 n5 n5 n5 n4 c n3 n3 n3 n3 n5 n5 n3 n2 n4 n2 n2 n2 n1 n1 n1
noncomputable def sRaise (s:Stmt) (c:Option Expr->Option Expr->Pos->Bool):Bool:=s.casesOn n10 n10 (fun uu uu uu uu uu uu uu uu uu uu uu=>false) n2 n2 n3 (fun uu uu uu uu uu uu uu=>false) n4 n5 n5 n5 n4 n4 n3 n3 n3 c n5 n5 n3 n2 n4 n2 n2 n2 n1 n1 n1
noncomputable def sTry (s:Stmt) (c:List Stmt->List ExceptHandler->List Stmt->List Stmt->Pos->Bool):Bool:=s.casesOn n10 n10 (fun uu uu uu uu uu uu uu uu uu uu uu=>false) n2 n2 n3 (fun uu uu uu uu uu uu uu=>false) n4 n5 n5 n5 n4 n4 n3 n3 n3 n3 c n5 n3 n2 n4 n2 n2 n2 n1 n1 n1
noncomputable def sExpr (s:Stmt) (c:Expr->Pos->Bool):Bool:=s.casesOn n10 n10 (fun uu uu uu uu uu uu uu uu uu uu uu=>false) n2 n2 n3 (fun uu uu uu uu uu uu uu=>false) n4 n5 n5 n5 n4 n4 n3 n3 n3 n3 n5 n5 n3 n2 n4 n2 n2 c n1 n1 n1
noncomputable def lNil {α:Type} (l:List α):Bool:=l.casesOn true n2
noncomputable def lCons {α:Type} (l:List α) (c:α->List α->Bool):Bool:=l.casesOn false c
noncomputable def lOne {α:Type} (l:List α) (c:α->Bool):Bool:=lCons l fun a r=>cond (lNil r) (c a) false
noncomputable def oSome {α:Type} (o:Option α) (c:α->Bool):Bool:=o.casesOn false c
noncomputable def oNone {α:Type} (o:Option α):Bool:=o.casesOn true n1
noncomputable def atK (ns:Names) (i:Nat) (x:Str) (p:NameKind->Bool):Bool:=oSome ns[i]? fun y=>decide (y.1=x)&&p y.2
noncomputable def special (x:Str):Bool:=x==Str.ofString "__debug__"||x==Str.ofString "__classdict__"
noncomputable def isLoc (k:NameKind):Bool:=k==.local
noncomputable def isCel (k:NameKind):Bool:=k==.cell
noncomputable def isOwn (k:NameKind):Bool:=k==.local||k==.cell
noncomputable def isAny (k:NameKind):Bool:=k==.local||k==.cell||k==.free
noncomputable def isGlb (ns:Names) (x:Str):Bool:=ns.lookup x==some .globalImplicit
noncomputable def t3 {α β γ:Type} (_:α) (_:β) (_:γ):Bool:=true
noncomputable def t4 {α β γ δ:Type} (_:α) (_:β) (_:γ) (_:δ):Bool:=true
noncomputable def t5 {α β γ δ ε:Type} (_:α) (_:β) (_:γ) (_:δ) (_:ε):Bool:=true
noncomputable def isBare (e:Expr):Bool:=eCall e fun f as kw uu=>eName f (fun uu uu=>true)&&lNil as&&lNil kw
noncomputable def isSlice (e:Expr):Bool:=eSlice e t4
noncomputable def isStarred (e:Expr):Bool:=eStarred e fun uu uu=>true
noncomputable def isAttr (e:Expr):Bool:=eAttribute e t3
noncomputable def isComp (e:Expr):Bool:=e.casesOn n3 n3 n4 n3 n4 n4 n3 n3 t4 t4 t5 n4 n2 n2 n2 n4 n4 n4 n2 n3 n3 n3 n2 n2 n2 n3 n4
noncomputable def isSet (e:Expr):Bool:=e.casesOn n3 n3 n4 n3 n4 n4 n3 t3 n4 n4 n5 n4 n2 n2 n2 n4 n4 n4 n2 n3 n3 n3 n2 n2 n2 n3 n4
noncomputable def okC (c:Const):Bool:=c.casesOn true (fun uu=>true) (fun uu=>true) n1 n2 (fun uu=>true) (fun uu=>true) false
noncomputable def capsOf (outer:Names):Nat->Names->Option (List (Nat×Nat))
 | _,[]=>some []
 | i,y :: r=>(capsOf outer (i+1) r).bind fun cs=>cond (y.2==.free) (bif outer.lookup y.1==some .cell then (outer.findIdx? fun z=>z.1==y.1).map fun j=>(i,j) :: cs else none) (some cs)
noncomputable def scFine (sc:Scope):Bool:=sc.kind==.function&&sc.names.all (fun y=>y.2 != .cell)&&decide ((sc.names.map (·.1)).Nodup)&&(lamIdx sc.names).isNone
noncomputable def chkT:T->Names->(Expr->Bool)×(List Expr->Bool)
 | .loc i,ns=>(fun e=>eName e fun x uu=>atK ns i x isLoc,n1)
 | .cel i,ns=>(fun e=>eName e fun x uu=>atK ns i x isCel,n1)
 | .tup ts,ns=>(fun e=>eTuple e fun es uu uu=>(chkT ts ns).2 es,n1)
 | .nil,_=>(n1,lNil)
 | .cons t ts,ns=>(n1,fun es=>lCons es fun e r=>(chkT t ns).1 e&&(chkT ts ns).2 r)
noncomputable def keysAre:List Const->List (Option Expr)->Bool
 | [],ks=>lNil ks
 | c :: cs,ks=>lCons ks fun k r=>oSome k (fun e=>eConstant e fun d uu uu=>decide (d=c)&&okC c)&&keysAre cs r
section
variable (lf:Nat->Arguments->Expr->Scope->Bool)
noncomputable def chkE:E->Names->(Expr->Bool)×(List Expr->Bool)
 | .cst c,_=>(fun e=>eConstant e fun d uu uu=>decide (d=c)&&okC c,n1)
 | .glb i,ns=>(fun e=>eName e fun x uu=>isGlb ns x&&!special x&&Nat.blt i 74&&decide (gname i=x),n1)
 | .loc i,ns=>(fun e=>eName e fun x uu=>atK ns i x isAny&&!special x,n1)
 | .bin m op a b,ns=>(fun e=>eBinOp e fun a0 o b0 p=>mplace p==m&&decide (o=op)&&(chkE a ns).1 a0&&(chkE b ns).1 b0,n1)
 | .not a,ns=>(fun e=>eUnaryOp e fun o a0 uu=>decide (o=.Not)&&(chkE a ns).1 a0,n1)
 | .neg a,ns=>(fun e=>eUnaryOp e fun o a0 uu=>decide (o=.USub)&&(chkE a ns).1 a0,n1)
 | .bop op es,ns=>(fun e=>eBoolOp e fun o es0 uu=>decide (o=op)&&!lNil es0&&(chkE es ns).2 es0,n1)
 | .ife t a b,ns=>(fun e=>eIfExp e fun t0 a0 b0 uu=>(chkE t ns).1 t0&&(chkE a ns).1 a0&&(chkE b ns).1 b0,n1)
 | .cmp op a b,ns=>(fun e=>eCompare e fun a0 os bs uu=>lOne os fun o=>lOne bs fun b0=>decide (o=op)&&!behindInMarks op b0&&(chkE a ns).1 a0&&(chkE b ns).1 b0,n1)
 | .tup es,ns=>(fun e=>eTuple e fun es0 uu uu=>(chkE es ns).2 es0,n1)
 | .lst m es,ns=>(fun e=>eList e fun es0 p=>mplaceL p==m&&(chkE es ns).2 es0,n1)
 | .dct kd ks vs,ns=>(fun e=>eDict e fun ks0 vs0 p=>dplace p==kd&&Nat.blt kd 4&&keysAre ks ks0&&Nat.beq vs0.length ks.length&&Nat.blt ks.length 16&&(chkE vs ns).2 vs0,n1)
 | .attr a x,ns=>(fun e=>eAttribute e fun a0 y uu=>!isBare a0&&Nat.blt x 81&&decide (nm x=y)&&(chkE a ns).1 a0,n1)
 | .sub a i,ns=>(fun e=>eSubscript e fun a0 i0 uu=>!isSlice i0&&(chkE a ns).1 a0&&(chkE i ns).1 i0,n1)
 | .upto m a h,ns=>(fun e=>eSubscript e fun a0 i0 p=>mplace p==m&&(chkE a ns).1 a0&&eSlice i0 fun l0 h0 t0 uu=>oNone l0&&oNone t0&&oSome h0 (chkE h ns).1,n1)
 | .rev a t,ns=>(fun e=>eSubscript e fun a0 i0 p=>!mplace p&&(chkE a ns).1 a0&&eSlice i0 fun l0 h0 t0 uu=>oNone l0&&oNone h0&&oSome t0 (chkE t ns).1,n1)
 | .call f as,ns=>(fun e=>eCall e fun f0 as0 kw uu=>lNil kw&&!isAttr f0&&(chkE f ns).1 f0&&(chkE as ns).2 as0,n1)
 | .meth o x as,ns=>(fun e=>eCall e fun f0 as0 kw p=>lNil kw&&(eAttribute f0 fun o0 y ap=>!isBare o0&&ap.endLine==p.line&&Nat.blt x 81&&decide (nm x=y)&&(chkE o ns).1 o0)&&Nat.blt as0.length 20&&(chkE as ns).2 as0,n1)
 | .comp m elt t src ifs n caps,ns=>(fun e=>eListComp e fun elt0 gs sc p=>lOne gs fun g=>decide (g.is_async=0)&&mplace p==m&&scFine sc&&decide (sc.names.length=n)&&decide (capsOf ns 0 sc.names=some caps)&&!isSet g.iter&&(chkE src ns).1 g.iter&&(chkE elt sc.names).1 elt0&&(chkT t sc.names).1 g.target&&(chkE ifs sc.names).2 g.ifs,n1)
 | .lam l caps,ns=>(fun e=>eLambda e fun a b sc uu=>(lamIdx ns).isSome&&lNil a.defaults&&lNil a.kw_defaults&&decide ((capsOf ns 0 sc.names).map (fun l=>l.map (·.2))=some caps)&&lf l a b sc,n1)
 | .bad,_=>(fun e=>!isStarred e,n1)
 | .nil,_=>(n1,lNil)
 | .cons a as,ns=>(n1,fun es=>lCons es fun e r=>(chkE a ns).1 e&&!isStarred e&&(chkE as ns).2 r)
noncomputable def chkG:G->Names->(Expr->Bool)×(List Expr->Bool)
 | .simple t,ns=>(fun e=>eName e fun uu uu=>(chkT t ns).1 e,n1)
 | .attr o x,ns=>(fun e=>eAttribute e fun o0 y uu=>Nat.blt x 81&&decide (nm x=y)&&(chkE lf o ns).1 o0,n1)
 | .sub o i,ns=>(fun e=>eSubscript e fun o0 i0 uu=>!isSlice i0&&(chkE lf o ns).1 o0&&(chkE lf i ns).1 i0,n1)
 | .tup n gs,ns=>(fun e=>eTuple e fun es uu uu=>Nat.beq es.length n&&(chkG gs ns).2 es,n1)
 | .nil,_=>(n1,lNil)
 | .cons g gs,ns=>(n1,fun es=>lCons es fun e r=>(chkG g ns).1 e&&(chkG gs ns).2 r)
noncomputable def tgNames:List Expr->List Str
 | []=>[]
 | .Name x _ :: r=>x :: tgNames r
 | _ :: r=>tgNames r
noncomputable def asgFine (g e:Expr):Bool:=bif eTuple g t3&&eTuple e t3 then eTuple g fun ts uu uu=>eTuple e fun vs uu uu=>decide (tgNames ts).Nodup&&!(vs.all (constantsAlone 8)) else true
noncomputable def chkH (ns:Names) (i:Nat) (h:ExceptHandler):Bool:=h.casesOn fun t n b uu=>oSome t fun te=>eName te fun x uu=>isGlb ns x&&decide (gname 45=x)&&oSome n fun m=>atK ns i m isLoc&&!special m&&lOne b fun s=>sReturn s fun r uu=>oSome r fun re=>eAttribute re fun o y uu=>decide (Str.ofString "told"=y)&&eName o fun m' uu=>decide (m'=m)
noncomputable def chkS:S->Names->(Stmt->Bool)×(List Stmt->Bool)
 | .expr e,ns=>(fun s=>sExpr s fun e0 uu=>!isComp e0&&(chkE lf e ns).1 e0,n1)
 | .asg g e,ns=>(fun s=>sAssign s fun gs e0 uu=>lOne gs fun g0=>asgFine g0 e0&&(chkG lf g ns).1 g0&&(chkE lf e ns).1 e0,n1)
 | .aug i op e,ns=>(fun s=>sAugAssign s fun t0 o e0 uu=>decide (o=op)&&(eName t0 fun x uu=>atK ns i x isLoc)&&(chkE lf e ns).1 e0,n1)
 | .ifs t a b,ns=>(fun s=>sIf s fun t0 a0 b0 uu=>(chkE lf t ns).1 t0&&(chkS a ns).2 a0&&(chkS b ns).2 b0,n1)
 | .for t it b,ns=>(fun s=>sFor s fun t0 it0 b0 o uu=>lNil o&&(chkT t ns).1 t0&&!isSet it0&&(chkE lf it ns).1 it0&&(chkS b ns).2 b0,n1)
 | .ret e,ns=>(fun s=>sReturn s fun o uu=>oSome o (chkE lf e ns).1,n1)
 | .raise e,ns=>(fun s=>sRaise s fun r c uu=>oNone c&&oSome r fun r0=>eCall r0 fun f as kw uu=>lNil kw&&(eName f fun x uu=>isGlb ns x&&decide (gname 45=x))&&lOne as fun e0=>!isStarred e0&&(chkE lf e ns).1 e0,n1)
 | .tryret e i,ns=>(fun s=>sTry s fun b hs o f uu=>lNil o&&lNil f&&(lOne hs (chkH ns i))&&lOne b fun s=>sReturn s fun r uu=>oSome r (chkE lf e ns).1,n1)
 | .bad,_=>(fun uu=>true,n1)
 | .nil,_=>(n1,lNil)
 | .cons s ss,ns=>(n1,fun l=>lCons l fun s0 r=>(chkS s ns).1 s0&&(chkS ss ns).2 r)
end
noncomputable def slotsAre (ns:Names) (p:NameKind->Bool):List Nat->List Arg->Bool
 | [],ps=>lNil ps
 | i :: is,ps=>lCons ps fun a r=>atK ns i a.arg p&&slotsAre ns p is r
noncomputable def freeSlots:Nat->Names->List Nat
 | _,[]=>[]
 | i,y :: r=>cond (y.2==.free) (i :: freeSlots (i+1) r) (freeSlots (i+1) r)
noncomputable def chkHead (n:Nat) (sl:List Nat) (p:NameKind->Bool) (a:Arguments) (sc:Scope):Bool :=
 lNil a.posonlyargs&&oNone a.vararg&&lNil a.kwonlyargs&&lNil a.kw_defaults&&oNone a.kwarg&&slotsAre sc.names p sl a.args&&decide ((a.args.map (·.arg)).Nodup) &&
 sc.kind==.function&&decide ((sc.names.map (·.1)).Nodup)&&!sc.isCoroutine&&!sc.isGenerator&&decide (sc.names.length=n)
noncomputable def chkLm (lm:Lm) (a:Arguments) (b:Expr) (sc:Scope):Bool :=
 chkHead lm.n lm.params isLoc a sc&&lNil a.defaults&&sc.names.all (fun y=>y.2 != .cell)&&(lamIdx sc.names).isNone&&decide (freeSlots 0 sc.names=lm.caps)&&(chkE (fun uu uu uu uu=>false) lm.body sc.names).1 b
noncomputable def chkFn (lf:Nat->Arguments->Expr->Scope->Bool) (fn:Fn) (a:Arguments) (b:List Stmt) (sc:Scope):Bool :=
 chkHead fn.n fn.params isOwn a sc&&Nat.ble fn.dflts.length fn.params.length&&(chkS lf fn.body sc.names).2 b
end
section
noncomputable def f1 {α:Type} (_:α):Prop:=False
noncomputable def f2 {α β:Type} (_:α) (_:β):Prop:=False
noncomputable def f3 {α β γ:Type} (_:α) (_:β) (_:γ):Prop:=False
noncomputable def asNone (a:AV) (c:Prop):Prop:=a.casesOn c f1 f1 f1 f1 f1 f1 f1 f1 f1 f1 f1 f2 f2 f3 f1
noncomputable def asBool (a:AV) (c:Bool->Prop):Prop:=a.casesOn False c f1 f1 f1 f1 f1 f1 f1 f1 f1 f1 f2 f2 f3 f1
noncomputable def asInt (a:AV) (c:Int->Prop):Prop:=a.casesOn False f1 c f1 f1 f1 f1 f1 f1 f1 f1 f1 f2 f2 f3 f1
noncomputable def asBytes (a:AV) (c:List UInt8->Prop):Prop:=a.casesOn False f1 f1 f1 c f1 f1 f1 f1 f1 f1 f1 f2 f2 f3 f1
noncomputable def asTyp (a:AV) (c:Nat->Prop):Prop:=a.casesOn False f1 f1 f1 f1 f1 f1 f1 c f1 f1 f1 f2 f2 f3 f1
noncomputable def asCell (a:AV) (c:Nat->Prop):Prop:=a.casesOn False f1 f1 f1 f1 f1 f1 f1 f1 c f1 f1 f2 f2 f3 f1
noncomputable def asTup (a:AV) (c:List AV->Prop):Prop:=a.casesOn False f1 f1 f1 f1 f1 f1 f1 f1 f1 c f1 f2 f2 f3 f1
noncomputable def asLst (a:AV) (c:List AV->Prop):Prop:=a.casesOn False f1 f1 f1 f1 f1 f1 f1 f1 f1 f1 c f2 f2 f3 f1
noncomputable def asInst (a:AV) (c:Nat->List (Nat×AV)->Prop):Prop:=a.casesOn False f1 f1 f1 f1 f1 f1 f1 f1 f1 f1 f1 c f2 f3 f1
noncomputable def asSet (a:AV) (c:List Int->Prop):Prop:=a.casesOn False f1 f1 f1 f1 f1 f1 f1 f1 f1 f1 f1 f2 f2 f3 c
noncomputable def asRng (a:AV) (c:Int->Int->Int->Prop):Prop:=a.casesOn False f1 f1 f1 f1 f1 f1 f1 f1 f1 f1 f1 f2 f2 c f1
noncomputable def kindOf (a:AV):Nat:=a.casesOn 0 (fun uu=>1) (fun uu=>2) (fun uu=>3) (fun uu=>4) (fun uu=>100) (fun uu=>100) (fun uu=>100) (fun uu=>100) (fun uu=>101) (fun uu=>5) (fun uu=>6) (fun uu uu=>104) (fun uu uu=>100) (fun uu uu uu=>102) (fun uu=>103)
noncomputable def isK (n:Nat) (a:AV):Bool:=Nat.beq (kindOf a) n
noncomputable def okO {α:Type} (o:Option α) (c:α->Prop):Prop:=o.casesOn False c
noncomputable def nilP {α:Type} (l:List α) (c:Prop):Prop:=l.casesOn c f2
noncomputable def consP {α:Type} (l:List α) (c:α->List α->Prop):Prop:=l.casesOn False c
noncomputable def oneP {α:Type} (l:List α) (c:α->Prop):Prop:=consP l fun a r=>nilP r (c a)
noncomputable def twoP {α:Type} (l:List α) (c:α->α->Prop):Prop:=consP l fun a r=>oneP r (c a)
noncomputable def int2 (a b:AV) (c:Int->Int->Prop):Prop:=asInt a fun x=>asInt b (c x)
noncomputable def smallB (i:Int):Bool:=Nat.blt i.natAbs (2 ^ 60)
noncomputable def smallC (i:Int) (P:Prop):Prop:=cond (smallB i) P False
noncomputable def few {α:Type} (l:List α) (P:Prop):Prop:=cond (Nat.blt l.length 1000) P False
@[irreducible] noncomputable def onCell (σ:Store) (i:Nat) (fL:List AV->Prop) (fD:Nat->List (AV×AV)->Nat->Prop) (fI:Nat->List (Nat×AV)->Prop):Prop:=(σ i).casesOn False fun c=>c.casesOn fL fD fI
noncomputable def onSeq (σ:Store) (a:AV) (fR:List AV->Prop) (fD:Nat->List (AV×AV)->Nat->Prop):Prop:=a.casesOn False f1 f1 f1 f1 f1 f1 f1 f1 (fun i=>onCell σ i fR fD f2) fR fR f2 f2 f3 f1
noncomputable def onRow (σ:Store) (a:AV) (fR:List AV->Prop):Prop:=a.casesOn False f1 f1 f1 f1 f1 f1 f1 f1 (fun i=>onCell σ i fR f3 f2) f1 fR f2 f2 f3 f1
noncomputable def kk1 (a b:AV):Nat:=cond (isK 3 a) (cond (isK 4 b||isK 2 b) 3 4) 4
noncomputable def keyKind (a:AV):Nat:=a.casesOn 4 (fun uu=>4) (fun uu=>0) (fun uu=>2) (fun uu=>1) (fun uu=>4) (fun uu=>4) (fun uu=>4) (fun uu=>4) (fun uu=>4) (fun vs=>vs.casesOn 4 fun x r=>r.casesOn 4 fun y q=>q.casesOn (kk1 x y) (fun uu uu=>4)) (fun uu=>4) (fun uu uu=>4) (fun uu uu=>4) (fun uu uu uu=>4) (fun uu=>4)
noncomputable def kkC (kd:Nat) (a:AV) (P:Prop):Prop:=cond (Nat.beq (keyKind a) kd) P False
noncomputable def bInt (a:AV) (c:Int->Bool):Bool:=a.casesOn false n1 c n1 n1 n1 n1 n1 n1 n1 n1 n1 n2 n2 n3 n1
noncomputable def bStr (a:AV) (c:Str->Bool):Bool:=a.casesOn false n1 n1 c n1 n1 n1 n1 n1 n1 n1 n1 n2 n2 n3 n1
noncomputable def bBytes (a:AV) (c:List UInt8->Bool):Bool:=a.casesOn false n1 n1 n1 c n1 n1 n1 n1 n1 n1 n1 n2 n2 n3 n1
noncomputable def bTup (a:AV) (c:List AV->Bool):Bool:=a.casesOn false n1 n1 n1 n1 n1 n1 n1 n1 n1 c n1 n2 n2 n3 n1
noncomputable def ueq (a b:AV):Bool:=a.casesOn false n1 (fun x=>bInt b fun y=>decide (x=y)) (fun x=>bStr b fun y=>decide (x=y)) (fun x=>bBytes b fun y=>decide (x=y)) n1 n1 n1 n1 n1 n1 n1 n2 n2 n3 n1
noncomputable def ueqs:List AV->AV->Bool
 | [],b=>bTup b lNil
 | x :: xs,b=>bTup b fun ys=>lCons ys fun y r=>ueq x y&&ueqs xs (.tup r)
noncomputable def keyEq (a b:AV):Bool:=a.casesOn false n1 (fun uu=>ueq a b) (fun uu=>ueq a b) (fun uu=>ueq a b) n1 n1 n1 n1 n1 (fun xs=>ueqs xs b) n1 n2 n2 n3 n1
noncomputable def dget (es:List (AV×AV)) (k:AV):Option AV:=match es with
 | []=>none
 | e :: r=>cond (keyEq e.1 k) (some e.2) (dget r k)
noncomputable def dput (es:List (AV×AV)) (k v:AV):List (AV×AV):=match es with
 | []=>[(k,v)]
 | e :: r=>cond (keyEq e.1 k) ((e.1,v) :: r) (e :: dput r k v)
noncomputable def ddel (es:List (AV×AV)) (k:AV):List (AV×AV):=match es with
 | []=>[]
 | e :: r=>cond (keyEq e.1 k) r (e :: ddel r k)
noncomputable def oB (o:Option Bool) (c:Bool->Option Bool):Option Bool:=o.bind c
noncomputable def oTup (a:AV) (c:List AV->Option Bool):Option Bool:=a.casesOn none (fun uu=>none) (fun uu=>none) (fun uu=>none) (fun uu=>none) (fun uu=>none) (fun uu=>none) (fun uu=>none) (fun uu=>none) (fun uu=>none) c (fun uu=>none) (fun uu uu=>none) (fun uu uu=>none) (fun uu uu uu=>none) (fun uu=>none)
noncomputable def oLst (a:AV) (c:List AV->Option Bool):Option Bool:=a.casesOn none (fun uu=>none) (fun uu=>none) (fun uu=>none) (fun uu=>none) (fun uu=>none) (fun uu=>none) (fun uu=>none) (fun uu=>none) (fun uu=>none) (fun uu=>none) c (fun uu uu=>none) (fun uu uu=>none) (fun uu uu uu=>none) (fun uu=>none)
noncomputable def allEq (f:AV->AV->Option Bool):List AV->List AV->Option Bool
 | [],bs=>bs.casesOn (some true) (fun uu uu=>none)
 | a :: r,bs=>bs.casesOn none fun b q=>(f a b).bind fun x=>(allEq f r q).map fun y=>x&&y
noncomputable def eq0 (a b:AV):Option Bool :=
 cond (isK 0 a&&isK 0 b) (some true) (cond (isK 0 a&&isK 2 b||isK 2 a&&isK 4 b||isK 4 a&&isK 2 b) (some false) (cond (Nat.beq (kindOf a) (kindOf b)&&(isK 2 a||isK 3 a||isK 4 a)) (some (ueq a b))
  (cond (isK 1 a&&isK 1 b) (some (a.casesOn false (fun x=>b.casesOn false (fun y=>x==y) n1 n1 n1 n1 n1 n1 n1 n1 n1 n1 n2 n2 n3 n1) n1 n1 n1 n1 n1 n1 n1 n1 n1 n1 n2 n2 n3 n1)) none)))
noncomputable def eqA:Nat->AV->AV->Option Bool
 | 0,a,b=>eq0 a b
 | n+1,a,b=>cond (isK 5 a) (oTup a fun xs=>oTup b fun ys=>allEq (eqA n) xs ys) (cond (isK 6 a) (oLst a fun xs=>oLst b fun ys=>cond (Nat.beq xs.length ys.length) (allEq (eqA n) xs ys) (some false)) (eq0 a b))
noncomputable def inAs (x:Int):List AV->Option Bool
 | []=>some false
 | a :: r=>(inAs x r).bind fun t=>cond (isK 2 a) (some (bInt a (fun y=>decide (y=x))||t)) none
noncomputable def dictEqZ (fs:List (AV×AV)):List (AV×AV)->Option Bool
 | []=>some true
 | e :: r=>(dget fs e.1).casesOn (some false) fun b=>(dictEqZ fs r).bind fun t=>cond (isK 2 e.2&&isK 2 b) (some (ueq e.2 b&&t)) none
noncomputable def eqW (a b:AV) (σ:Store) (Q:Bool->Prop):Prop :=
 cond (isK 101 a) (asCell a fun i=>asCell b fun j=>onCell σ i f1 (fun ki es uu=>onCell σ j f1 (fun kj fs uu=>cond (Nat.beq ki 0&&Nat.beq kj 0) (okO (cond (Nat.beq es.length fs.length) (dictEqZ fs es) (some false)) Q) False) f2) f2) (okO (eqA 3 a b) Q)
noncomputable def neW (a b:AV) (Q:Bool->Prop):Prop:=cond (isK 104 a) (asInst a fun c fs=>cond (Nat.beq c 1) (asBytes b fun uu=>Q true) False) (okO (eqA 3 a b) fun r=>Q (!r))
noncomputable def isW (a b:AV) (σ:Store) (Q:Bool->Prop):Prop :=
 cond (isK 101 b) (asCell a fun i=>asCell b fun j=>(σ i).isSome=true/\(σ j).isSome=true/\Q (decide (i=j))) (asNone b (Q (isK 0 a)))
noncomputable def inW (a b:AV) (σ:Store) (Q:Bool->Prop):Prop :=
 cond (isK 101 b) (asCell b fun i=>onCell σ i f1 (fun kd es uu=>kkC kd a (Q (dget es a).isSome)) f2) (asLst b fun vs=>asInt a fun x=>okO (inAs x vs) Q)
noncomputable def cmpW (op:CmpOp) (a b:AV) (σ:Store) (Q:Bool->Prop):Prop :=
 op.casesOn (eqW a b σ Q) (neW a b Q) (int2 a b fun x y=>Q (decide (x < y))) (int2 a b fun x y=>Q (decide (x<=y))) (int2 a b fun x y=>Q (decide (y < x))) (int2 a b fun x y=>Q (decide (y<=x)))
  (isW a b σ Q) (isW a b σ fun r=>Q (!r)) (inW a b σ Q) (inW a b σ fun r=>Q (!r))
noncomputable def arith (f:Int->Int->Int) (a b:AV) (k:Nat) (σ:Store) (Q:PostV):Prop:=int2 a b fun x y=>smallC x (smallC y (Q (.int (f x y)) k σ))
noncomputable def addW (m:Bool) (a b:AV) (k:Nat) (σ:Store) (Q:PostV):Prop :=
 cond (isK 2 a) (arith HAdd.hAdd a b k σ Q) (cond (isK 5 a) (asTup a fun xs=>asTup b fun ys=>cond (xs.isEmpty||ys.isEmpty) False (few xs (few ys (Q (.tup (xs ++ ys)) k σ)))) (asLst a fun xs=>asLst b fun ys=>cond m False (few xs (few ys (Q (.lst (xs ++ ys)) k σ)))))
noncomputable def mulW (m:Bool) (a b:AV) (k:Nat) (σ:Store) (Q:PostV):Prop :=
 cond (isK 2 a) (arith HMul.hMul a b k σ Q) (asLst a fun xs=>oneP xs fun v=>asInt b fun n=>cond m (0 < n/\n < 100/\Q (.cell k) (k+1) (upd σ k (.list (List.replicate n.toNat v)))) False)
noncomputable def modW (a b:AV) (k:Nat) (σ:Store) (Q:PostV):Prop:=int2 a b fun x y=>0 < y/\Q (.int (Int.fmod x y)) k σ
noncomputable def divW (a b:AV) (k:Nat) (σ:Store) (Q:PostV):Prop:=int2 a b fun x y=>0 < y/\y < 1000000/\Q (.int (Int.fdiv x y)) k σ
noncomputable def binW (m:Bool) (op:Operator) (a b:AV) (k:Nat) (σ:Store) (Q:PostV):Prop :=
 op.casesOn (addW m a b k σ Q) (arith HSub.hSub a b k σ Q) (mulW m a b k σ Q) False False (modW a b k σ Q) False False False False False False (divW a b k σ Q)
noncomputable def place (n:Nat) (i:Int):Option Nat:=if 0<=i then (if i < n then some i.toNat else none) else if 0<=i+n then some (i+n).toNat else none
noncomputable def idxW (vs:List AV) (i:AV) (Q:AV->Prop):Prop:=asInt i fun n=>smallC n (okO (place vs.length n) fun j=>okO vs[j]? Q)
noncomputable def subW (a i:AV) (σ:Store) (Q:AV->Prop):Prop:=onSeq σ a (fun vs=>idxW vs i Q) fun kd es uu=>kkC kd i (okO (dget es i) Q)
noncomputable def mkList (m:Bool) (vs:List AV) (k:Nat) (σ:Store) (Q:PostV):Prop:=cond m (Q (.cell k) (k+1) (upd σ k (.list vs))) (Q (.lst vs) k σ)
noncomputable def uptoL (vs:List AV) (h:Int):Option (List AV):=if 0<=h then some (vs.take h.toNat) else cond (decide (h=-1)) (some vs.dropLast) none
noncomputable def uptoW (m:Bool) (a h:AV) (k:Nat) (σ:Store) (Q:PostV):Prop:=onRow σ a fun vs=>few vs (asInt h fun n=>okO (uptoL vs n) fun ws=>mkList m ws k σ Q)
noncomputable def revW (a t:AV) (k:Nat) (σ:Store) (Q:PostV):Prop:=onRow σ a fun vs=>few vs (asInt t fun n=>cond (decide (n=-1)) (Q (.lst vs.reverse) k σ) False)
noncomputable def keysOf (es:List (AV×AV)):List AV:=es.map (·.1)
noncomputable def rangeL (a b c:Int):List AV:=(List.range (Builtin.Range.rangeSize a b c).toNat).map fun (i:Nat)=>AV.int (a+c*(i:Int))
noncomputable def rngB (a b c:Int):Bool:=Nat.blt a.natAbs 1000000000&&Nat.blt b.natAbs 1000000000&&Nat.blt c.natAbs 1000&&!decide (c=0)
noncomputable def itemsC (σ:Store) (a:AV) (c:List AV->(Store->Prop)->Prop):Prop :=
 cond (isK 102 a) (asRng a fun x y d=>cond (rngB x y d) (c (rangeL x y d) fun uu=>True) False)
  (a.casesOn False f1 f1 f1 f1 f1 f1 f1 f1 (fun i=>onCell σ i (fun vs=>c vs fun σ'=>σ' i=some (.list vs)) (fun kd es ep=>c (keysOf es) fun σ'=>σ' i=some (.dict kd es ep)) f2) (fun vs=>c vs fun uu=>True) (fun vs=>c vs fun uu=>True) f2 f2 f3 f1)
noncomputable def truthW (a:AV) (Q:Bool->Prop):Prop:=asBool a Q
noncomputable def initOf (c:Nat):Option Nat:=[none,some 46,some 47,some 50,some 65,some 67,some 68].getD c none
noncomputable def methL:List (List (Nat×Nat)):=[[],[],[(13,48),(14,49)],[(21,52),(23,53),(77,54),(25,55),(70,56),(74,57),(20,58),(76,59),(22,60),(72,61),(71,62),(78,63),(79,64)],[(25,66)],[],[(65,70),(66,71),(64,72),(80,73),(67,74),(68,75),(69,76),(17,77),(73,78),(75,79)]]
noncomputable def propL:List (List (Nat×Nat)):=[[],[],[],[(12,51)],[],[],[(8,69)]]
noncomputable def fieldL:List (List Nat):=[[],[1,2,3,4],[5,6,7,8,4,9],[6,18],[26,27,24,28,16,29,30,31,32,33,34,35,36,37,38,39,40,41,42,43,44,45,46,47,48,21],[27,24,32,49,50,51,52,9,53,54,55,30,34,56],[16,7,49,57,58,59,60,61,62,63]]
noncomputable def lookN (l:List (Nat×Nat)) (x:Nat):Option Nat:=match l with
 | []=>none
 | e :: r=>cond (Nat.beq e.1 x) (some e.2) (lookN r x)
noncomputable def hasN (l:List Nat) (x:Nat):Bool:=match l with
 | []=>false
 | e :: r=>cond (Nat.beq e x) true (hasN r x)
noncomputable def methOf (c x:Nat):Option Nat:=lookN (methL.getD c []) x
noncomputable def propOf (c x:Nat):Option Nat:=lookN (propL.getD c []) x
noncomputable def fieldOk (c x:Nat):Bool:=hasN (fieldL.getD c []) x
noncomputable def fget (fs:List (Nat×AV)) (x:Nat):Option AV:=match fs with
 | []=>none
 | f :: r=>cond (Nat.beq f.1 x) (some f.2) (fget r x)
noncomputable def fput (fs:List (Nat×AV)) (x:Nat) (v:AV):List (Nat×AV):=match fs with
 | []=>[(x,v)]
 | f :: r=>cond (Nat.beq f.1 x) ((f.1,v) :: r) (f :: fput r x v)
noncomputable def insB (x:List UInt8):List (List UInt8)->List (List UInt8)
 | []=>[x]
 | y :: r=>cond (leB x y) (x :: y :: r) (y :: insB x r)
where
 leB:List UInt8->List UInt8->Bool
  | [],_=>true
  | a :: r,q=>lCons q fun b q=>cond (decide (a < b)) true (cond (decide (b < a)) false (leB r q))
noncomputable def sortB:List (List UInt8)->List (List UInt8)
 | []=>[]
 | x :: r=>insB x (sortB r)
noncomputable def oBytes (a:AV):Option (List UInt8):=a.casesOn none (fun uu=>none) (fun uu=>none) (fun uu=>none) some (fun uu=>none) (fun uu=>none) (fun uu=>none) (fun uu=>none) (fun uu=>none) (fun uu=>none) (fun uu=>none) (fun uu uu=>none) (fun uu uu=>none) (fun uu uu uu=>none) (fun uu=>none)
noncomputable def oInt (a:AV):Option Int:=a.casesOn none (fun uu=>none) some (fun uu=>none) (fun uu=>none) (fun uu=>none) (fun uu=>none) (fun uu=>none) (fun uu=>none) (fun uu=>none) (fun uu=>none) (fun uu=>none) (fun uu uu=>none) (fun uu uu=>none) (fun uu uu uu=>none) (fun uu=>none)
noncomputable def bytesAll:List AV->Option (List (List UInt8))
 | []=>some []
 | a :: r=>(oBytes a).bind fun b=>(bytesAll r).map (b :: ·)
noncomputable def insZ (x:Int):List Int->List Int
 | []=>[x]
 | y :: r=>if x < y then x :: y :: r else if x=y then y :: r else y :: insZ x r
noncomputable def sortZ:List Int->List Int
 | []=>[]
 | x :: r=>insZ x (sortZ r)
noncomputable def intsAll:List AV->Option (List Int)
 | []=>some []
 | a :: r=>(oInt a).bind fun i=>(intsAll r).map (i :: ·)
noncomputable def minZ:List Int->Option Int
 | []=>none
 | x :: r=>some ((minZ r).casesOn x fun y=>min x y)
noncomputable def oPair (a:AV):Option (AV×AV):=a.casesOn none (fun uu=>none) (fun uu=>none) (fun uu=>none) (fun uu=>none) (fun uu=>none) (fun uu=>none) (fun uu=>none) (fun uu=>none) (fun uu=>none) (fun vs=>vs.casesOn none fun x r=>r.casesOn none fun y q=>q.casesOn (cond (isK 2 x) (some (x,y)) none) (fun uu uu=>none)) (fun uu=>none) (fun uu uu=>none) (fun uu uu=>none) (fun uu uu uu=>none) (fun uu=>none)
noncomputable def pairsAll:List AV->Option (List (AV×AV))
 | []=>some []
 | a :: r=>(oPair a).bind fun p=>(pairsAll r).map (p :: ·)
noncomputable def sortW (vs:List AV) (k:Nat) (σ:Store) (Q:PostV):Prop:=okO (bytesAll vs) fun bs=>cond (Nat.blt vs.length 64) (Q (.lst ((sortB bs).map .bytes)) k σ) False
noncomputable def allSmall (is:List Int):Bool:=is.all fun i=>smallB (1000*i)
noncomputable def all5 (is:List Int):Bool:=is.all fun i=>decide (0<=i)&&decide (i < 5)
noncomputable def bltW (n:Nat) (args:List AV) (k:Nat) (σ:Store) (Q:PostV):Prop :=
 cond (Nat.beq n 0) (oneP args fun a=>cond (isK 101 a||isK 6 a) (onSeq σ a (fun vs=>few vs (Q (.int vs.length) k σ)) fun uu es uu=>few es (Q (.int es.length) k σ)) False)
 (cond (Nat.beq n 1) (oneP args fun a=>cond (isK 103 a) (asSet a fun vs=>Q (.lst ((sortZ vs).map .int)) k σ) (cond (isK 101 a||isK 6 a) (onSeq σ a (fun vs=>sortW vs k σ Q) fun kd es uu=>cond (Nat.beq kd 1) (sortW (keysOf es) k σ Q) False) False))
 (cond (Nat.beq n 2) (twoP args fun a b=>int2 a b fun x y=>Q (.int (max x y)) k σ)
 (cond (Nat.beq n 3) (consP args fun a r=>cond (isK 2 a) (oneP r fun b=>int2 a b fun x y=>Q (.int (min x y)) k σ) (nilP r (asLst a fun vs=>okO (intsAll vs) fun is=>okO (minZ is) fun m=>few vs (Q (.int m) k σ))))
 (cond (Nat.beq n 4) (twoP args fun a t=>asTyp t fun j=>cond (Nat.beq j 2) (cond (isK 104 a) (asInst a fun c uu=>cond (Nat.beq c 1) (Q (.bool false) k σ) False) (cond (Nat.blt (kindOf a) 100) (Q (.bool (isK 4 a)) k σ) False)) False)
 (cond (Nat.beq n 5) (oneP args fun a=>asLst a fun vs=>okO (intsAll vs) fun is=>cond (allSmall is) (few vs (Q (.int is.sum) k σ)) False) False)))))
noncomputable def typW (n:Nat) (args:List AV) (k:Nat) (σ:Store) (Q:PostV):Prop :=
 cond (Nat.beq n 0) (oneP args fun a=>onRow σ a fun vs=>few vs (Q (.lst vs) k σ))
 (cond (Nat.beq n 1) (consP args fun a r=>asInt a fun x=>smallC x (r.casesOn (Q (.rng 0 x 1) k σ) fun b r=>oneP r fun c=>int2 b c fun y d=>smallC y (cond (Nat.blt d.natAbs 1000&&!decide (d=0)) (Q (.rng x y d) k σ) False)))
 (cond (Nat.beq n 3) (oneP args fun a=>asLst a fun vs=>okO (pairsAll vs) fun ps=>few vs (∀ ep,Q (.cell k) (k+1) (upd σ k (.dict 0 (ps.foldl (fun es p=>dput es p.1 p.2) []) ep))))
 (cond (Nat.beq n 4) (oneP args fun a=>asLst a fun vs=>okO (intsAll vs) fun is=>cond (all5 is) (few vs (Q (.set is) k σ)) False)
 (cond (Nat.beq n 5) (oneP args fun a=>asInt a fun i=>Q (.int i) k σ)
 (cond (Nat.beq n 6) (oneP args fun a=>asTup a fun vs=>Q (.tup vs) k σ) False)))))
noncomputable def asT:T->AV->Vars->Option Vars
 | .loc i,v,vars=>some (vars.set i (some v))
 | .cel i,v,vars=>(vars[i]?).bind fun o=>o.casesOn (some (vars.set i (some v))) fun uu=>none
 | .tup ts,v,vars=>asT ts v vars
 | .nil,v,vars=>cond (bTup v lNil) (some vars) none
 | .cons t ts,v,vars=>v.casesOn none (fun uu=>none) (fun uu=>none) (fun uu=>none) (fun uu=>none) (fun uu=>none) (fun uu=>none) (fun uu=>none) (fun uu=>none) (fun uu=>none) (fun vs=>vs.casesOn none fun a r=>(asT t a vars).bind fun vars=>asT ts (.tup r) vars) (fun uu=>none) (fun uu uu=>none) (fun uu uu=>none) (fun uu uu uu=>none) (fun uu=>none)
noncomputable def capture (outer:Vars):List (Nat×Nat)->Vars->Vars
 | [],vars=>vars
 | p :: r,vars=>capture outer r (vars.set p.1 ((outer[p.2]?).getD none))
noncomputable def compW (elt:Vars->Nat->Store->PostV->Prop) (ok:Vars->Nat->Store->(Bool->Nat->Store->Prop)->Prop) (t:T) (inv:Store->Prop):List AV->List AV->Vars->Nat->Store->(List AV->Nat->Store->Prop)->Prop
 | [],acc,_,k,σ,Q=>inv σ/\Q acc k σ
 | v :: vs,acc,vars,k,σ,Q=>inv σ/\okO (asT t v vars) fun vars=>ok vars k σ fun b k σ=>cond b (elt vars k σ fun a k σ=>compW elt ok t inv vs (acc ++ [a]) vars k σ Q) (compW elt ok t inv vs acc vars k σ Q)
noncomputable def bopSel (op:BoolOp) (b:Bool) (P R:Prop):Prop:=op.casesOn (cond b R P) (cond b P R)
noncomputable def isNil (e:E):Bool:=match e with
 | .nil=>true
 | _=>false
noncomputable def cav (c:Const):AV:=c.casesOn .none .bool .int (fun uu=>.none) (fun uu uu=>.none) .str .bytes .none
noncomputable def caps? (vars:Vars):List Nat->Option (List AV)
 | []=>some []
 | j :: r=>((vars[j]?).getD none).bind fun a=>(caps? vars r).map (a :: ·)
section
variable (cw:AV->List AV->Nat->Store->PostV->PostV->Prop)
noncomputable def fld (c x:Nat) (fs:List (Nat×AV)) (Q:AV->Prop):Prop:=cond (fieldOk c x) (okO (fget fs x) Q) False
noncomputable def attrW (a:AV) (x:Nat) (k:Nat) (σ:Store) (Q:PostV):Prop :=
 cond (isK 101 a) (asCell a fun i=>onCell σ i f1 f3 fun c fs=>(propOf c x).casesOn (fld c x fs fun v=>Q v k σ) fun f=>cw (.fn f) [a] k σ Q f3) (asInst a fun c fs=>fld c x fs fun v=>Q v k σ)
noncomputable def methC (a:AV) (x:Nat) (σ:Store) (c:Nat->Prop):Prop :=
 asCell a fun i=>onCell σ i (fun uu=>cond (Nat.beq x 15||Nat.beq x 19) (c 0) False) (fun uu uu uu=>cond (Nat.beq x 13||Nat.beq x 19) (c 1) False) fun cl fs=>okO (methOf cl x) fun f=>(fget fs x).casesOn (c f.succ.succ) f1
noncomputable def listM (a:AV) (x:Nat) (args:List AV) (k:Nat) (σ:Store) (Q:PostV):Prop :=
 asCell a fun i=>onCell σ i (fun vs=>few vs (cond (Nat.beq x 15) (oneP args fun v=>Q .none k (upd σ i (.list (vs ++ [v])))) (nilP args (okO vs.getLast? fun v=>Q v k (upd σ i (.list vs.dropLast)))))) f3 f2
noncomputable def dictM (a:AV) (x:Nat) (args:List AV) (k:Nat) (σ:Store) (Q:PostV):Prop :=
 asCell a fun i=>onCell σ i f1 (fun kd es uu=>consP args fun key r=>kkC kd key (cond (Nat.beq x 13)
  (r.casesOn (Q ((dget es key).getD .none) k σ) fun d r=>nilP r (Q ((dget es key).getD d) k σ))
  (nilP r (cond (Nat.beq kd 3) (few es (okO (dget es key) fun v=>∀ ep,Q v k (upd σ i (.dict kd (ddel es key) ep)))) False)))) f2
noncomputable def methW (f:Nat) (a:AV) (x:Nat) (args:List AV) (k:Nat) (σ:Store) (Q X:PostV):Prop :=
 f.casesOn (listM a x args k σ Q) fun f=>f.casesOn (dictM a x args k σ Q) fun f=>cw (.fn f) (a :: args) k σ Q X
noncomputable def makeW (c:Nat) (args:List AV) (k:Nat) (σ:Store) (Q:PostV):Prop :=
 okO (initOf c) fun g=>cw (.fn g) (.cell k :: args) (k+1) (upd σ k (.inst c [])) (fun r k' σ'=>asNone r (cond (Nat.beq c 1) (onCell σ' k f1 f3 fun c' fs=>cond (Nat.beq c' 1) (Q (.inst 1 fs) k' (del σ' k)) False) (Q (.cell k) k' σ'))) f3
noncomputable def appW (f:AV) (args:List AV) (k:Nat) (σ:Store) (Q X:PostV):Prop :=
 f.casesOn False f1 f1 f1 f1 (fun uu=>cw f args k σ Q X) (fun c=>makeW cw c args k σ Q) (fun n=>bltW n args k σ Q) (fun n=>typW n args k σ Q) f1 f1 f1 f2 (fun uu uu=>cw f args k σ Q X) f3 f1
mutual
noncomputable def evW:E->Vars->Nat->Store->PostV->PostV->Prop
 | .cst c,_,k,σ,Q,_=>c.casesOn (Q .none k σ) (fun b=>Q (.bool b) k σ) (fun i=>Q (.int i) k σ) f1 f2 (fun s=>Q (.str s) k σ) (fun b=>Q (.bytes b) k σ) False
 | .glb i,_,k,σ,Q,_=>Q (gval i) k σ
 | .loc i,vars,k,σ,Q,_=>okO vars[i]? fun o=>okO o fun a=>Q a k σ
 | .bin m op a b,vars,k,σ,Q,X=>evW a vars k σ (fun x k σ=>evW b vars k σ (fun y k σ=>binW m op x y k σ Q) X) X
 | .not a,vars,k,σ,Q,X=>evW a vars k σ (fun x k σ=>truthW x fun b=>Q (.bool (!b)) k σ) X
 | .neg a,vars,k,σ,Q,X=>evW a vars k σ (fun x k σ=>asInt x fun i=>smallC i (Q (.int (-i)) k σ)) X
 | .bop op es,vars,k,σ,Q,X=>bopW es op vars k σ Q X
 | .ife t a b,vars,k,σ,Q,X=>evW t vars k σ (fun c k σ=>truthW c fun c=>cond c (evW a vars k σ Q X) (evW b vars k σ Q X)) X
 | .cmp op a b,vars,k,σ,Q,X=>evW a vars k σ (fun x k σ=>evW b vars k σ (fun y k σ=>cmpW op x y σ fun r=>Q (.bool r) k σ) X) X
 | .tup es,vars,k,σ,Q,X=>evW es vars k σ (fun w k σ=>asTup w fun vs=>few vs (Q w k σ)) X
 | .lst m es,vars,k,σ,Q,X=>evW es vars k σ (fun w k σ=>asTup w fun vs=>few vs (mkList m vs k σ Q)) X
 | .dct kd ks vs,vars,k,σ,Q,X=>cond (ks.all fun c=>Nat.beq (keyKind (cav c)) kd) (evW vs vars k σ (fun w k σ=>asTup w fun vs=>∀ ep,Q (.cell k) (k+1) (upd σ k (.dict kd (((ks.map cav).zip vs).foldl (fun es p=>dput es p.1 p.2) []) ep))) X) False
 | .attr e x,vars,k,σ,Q,X=>evW e vars k σ (fun a k σ=>attrW cw a x k σ Q) X
 | .sub e i,vars,k,σ,Q,X=>evW e vars k σ (fun a k σ=>evW i vars k σ (fun i k σ=>subW a i σ fun v=>Q v k σ) X) X
 | .upto m e h,vars,k,σ,Q,X=>evW e vars k σ (fun a k σ=>evW h vars k σ (fun h k σ=>uptoW m a h k σ Q) X) X
 | .rev e t,vars,k,σ,Q,X=>evW e vars k σ (fun a k σ=>evW t vars k σ (fun t k σ=>revW a t k σ Q) X) X
 | .call f args,vars,k,σ,Q,X=>evW f vars k σ (fun f k σ=>evW args vars k σ (fun w k σ=>asTup w fun vs=>appW cw f vs k σ Q X) X) X
 | .meth o x args,vars,k,σ,Q,X=>evW o vars k σ (fun a k σ=>methC a x σ fun f=>evW args vars k σ (fun w k σ=>asTup w fun vs=>methW cw f a x vs k σ Q X) X) X
 | .comp m elt t src ifs n caps,vars,k,σ,Q,X=>evW src vars k σ (fun a k σ=>itemsC σ a fun items inv=>few items (compW (fun vs k σ Q=>evW elt vs k σ Q f3)
   (fun vs k σ Q=>bopW ifs .And vs k σ (fun a k σ=>truthW a fun b=>Q b k σ) f3) t inv items [] (capture vars caps (List.replicate n none)) k σ fun acc k σ=>mkList m acc k σ Q)) X
 | .lam l caps,vars,k,σ,Q,_=>okO (caps? vars caps) fun cs=>Q (.clo l cs) k σ
 | .bad,_,_,_,_,_=>False
 | .nil,_,k,σ,Q,_=>Q (.tup []) k σ
 | .cons e es,vars,k,σ,Q,X=>evW e vars k σ (fun v k σ=>evW es vars k σ (fun w k σ=>asTup w fun vs=>Q (.tup (v :: vs)) k σ) X) X
noncomputable def bopW:E->BoolOp->Vars->Nat->Store->PostV->PostV->Prop
 | .cons e es,op,vars,k,σ,Q,X=>evW e vars k σ (fun a k σ=>cond (isNil es) (Q a k σ) (truthW a fun b=>bopSel op b (Q a k σ) (bopW es op vars k σ Q X))) X
 | .nil,_,_,k,σ,Q,_=>Q (.bool true) k σ
 | _,_,_,_,_,_,_=>False
end
abbrev PostN:=Vars->Nat->Store->Prop
noncomputable def storeAttr (a:AV) (x:Nat) (v:AV) (σ:Store) (Q:Store->Prop):Prop :=
 asCell a fun i=>onCell σ i f1 f3 fun c fs=>(propOf c x).casesOn (cond (fieldOk c x) (few fs (Q (upd σ i (.inst c (fput fs x v))))) False) f1
noncomputable def storeSub (a i v:AV) (σ:Store) (Q:Store->Prop):Prop :=
 asCell a fun c=>onCell σ c (fun vs=>few vs (asInt i fun n=>0<=n/\n < vs.length/\Q (upd σ c (.list (vs.set n.toNat v))))) (fun kd es uu=>kkC kd i (few es (∀ ep,Q (upd σ c (.dict kd (dput es i v) ep))))) f2
noncomputable def gW:G->AV->Vars->Nat->Store->PostN->PostV->Prop
 | .simple t,v,vars,k,σ,Q,_=>okO (asT t v vars) fun vars=>Q vars k σ
 | .attr o x,v,vars,k,σ,Q,X=>evW cw o vars k σ (fun a k σ=>storeAttr a x v σ fun σ=>Q vars k σ) X
 | .sub o i,v,vars,k,σ,Q,X=>evW cw o vars k σ (fun a k σ=>evW cw i vars k σ (fun i k σ=>storeSub a i v σ fun σ=>Q vars k σ) X) X
 | .tup n gs,v,vars,k,σ,Q,X=>onSeq σ v (fun vs=>cond (Nat.beq n vs.length) (gW gs (.tup vs) vars k σ Q X) False) f3
 | .nil,v,vars,k,σ,Q,_=>cond (bTup v lNil) (Q vars k σ) False
 | .cons g gs,v,vars,k,σ,Q,X=>asTup v fun vs=>consP vs fun v vs=>gW g v vars k σ (fun vars k σ=>gW gs (.tup vs) vars k σ Q X) X
noncomputable def forW (t:T) (body:Vars->Nat->Store->PostN->Prop) (inv:Store->Prop):List AV->Vars->Nat->Store->PostN->Prop
 | [],vars,k,σ,N=>inv σ/\N vars k σ
 | v :: vs,vars,k,σ,N=>inv σ/\okO (asT t v vars) fun vars=>body vars k σ fun vars k σ=>forW t body inv vs vars k σ N
noncomputable def exW:S->Vars->Nat->Store->PostN->PostV->PostV->Prop
 | .expr e,vars,k,σ,N,_,X=>evW cw e vars k σ (fun uu k σ=>N vars k σ) X
 | .asg g e,vars,k,σ,N,_,X=>evW cw e vars k σ (fun v k σ=>gW cw g v vars k σ N X) X
 | .aug i op e,vars,k,σ,N,_,X=>okO vars[i]? fun o=>okO o fun a=>evW cw e vars k σ (fun b k σ=>cond (decide (op=.Add)) (arith HAdd.hAdd a b k σ fun c k σ=>N (vars.set i (some c)) k σ) False) X
 | .ifs t a b,vars,k,σ,N,R,X=>evW cw t vars k σ (fun c k σ=>truthW c fun c=>cond c (exW a vars k σ N R X) (exW b vars k σ N R X)) X
 | .for t it b,vars,k,σ,N,R,X=>evW cw it vars k σ (fun a k σ=>itemsC σ a fun items inv=>few items (forW t (fun vars k σ N=>exW b vars k σ N R X) inv items vars k σ N)) X
 | .ret e,vars,k,σ,_,R,X=>evW cw e vars k σ R X
 | .raise e,vars,k,σ,_,_,X=>evW cw e vars k σ X f3
 | .tryret e _,vars,k,σ,_,R,_=>evW cw e vars k σ R R
 | .bad,_,_,_,_,_,_=>False
 | .nil,vars,k,σ,N,_,_=>N vars k σ
 | .cons s ss,vars,k,σ,N,R,X=>exW s vars k σ (fun vars k σ=>exW ss vars k σ N R X) R X
end
noncomputable def setAll:List Nat->List AV->Vars->Option Vars
 | [],vs,vars=>vs.casesOn (some vars) (fun uu uu=>none)
 | i :: is,vs,vars=>vs.casesOn none fun v vs=>setAll is vs (vars.set i (some v))
noncomputable def bindV (fn:Fn) (args:List AV):Option Vars :=
 cond (Nat.ble args.length fn.params.length&&Nat.ble (fn.params.length - args.length) fn.dflts.length) (setAll fn.params (args ++ fn.dflts.drop (fn.dflts.length - (fn.params.length - args.length))) (List.replicate fn.n none)) none
noncomputable def bindL (lm:Lm) (caps args:List AV):Option Vars:=(setAll lm.caps caps (List.replicate lm.n none)).bind (setAll lm.params args)
noncomputable def stepW (Φ:Nat->Option Fn) (Λ:Nat->Option Lm) (cw:AV->List AV->Nat->Store->PostV->PostV->Prop) (a:AV) (args:List AV) (k:Nat) (σ:Store) (Q X:PostV):Prop:=a.casesOn False f1 f1 f1 f1
  (fun f=>okO (Φ f) fun fn=>okO (bindV fn args) fun vars=>cond fn.keep (exW cw fn.body vars k σ (fun uu k' σ'=>Q .none k' σ') Q X)
   (exW cw fn.body vars k σ (fun uu k' σ'=>Q .none k' (restr k σ')) (fun v k' σ'=>Q v k' (restr k σ')) (fun v k' σ'=>X v k' (restr k σ'))))
  f1 f1 f1 f1 f1 f1 f2 (fun l caps=>okO (Λ l) fun lm=>okO (bindL lm caps args) fun vars=>evW cw lm.body vars k σ Q X) f3 f1
structure Box (p:Prop):Prop where
 out:p
@[irreducible] noncomputable def callW (Φ:Nat->Option Fn) (Λ:Nat->Option Lm) (n:Nat):AV->List AV->Nat->Store->PostV->PostV->Prop:=Nat.rec (motive:=fun uu=>AV->List AV->Nat->Store->PostV->PostV->Prop) (fun uu uu uu uu uu uu=>False) (fun uu cw a args k σ Q X=>Box (stepW Φ Λ cw a args k σ Q X)) n
theorem callW_0 {Φ:Nat->Option Fn} {Λ:Nat->Option Lm}:callW Φ Λ 0=fun uu uu uu uu uu uu=>False:=by unfold callW;rfl
theorem callW_s {Φ:Nat->Option Fn} {Λ:Nat->Option Lm} {n:Nat}:callW Φ Λ (n+1)=fun a args k σ Q X=>Box (stepW Φ Λ (callW Φ Λ n) a args k σ Q X):=by unfold callW;rfl
theorem onL {σ:Store} {i:Nat} {vs:List AV} {fL:List AV->Prop} {fD:Nat->List (AV×AV)->Nat->Prop} {fI:Nat->List (Nat×AV)->Prop} (e:σ i=some (.list vs)) (h:fL vs):onCell σ i fL fD fI:=by
 unfold onCell
 exact e▸h
theorem onD {σ:Store} {i kd ep:Nat} {es:List (AV×AV)} {fL:List AV->Prop} {fD:Nat->List (AV×AV)->Nat->Prop} {fI:Nat->List (Nat×AV)->Prop} (e:σ i=some (.dict kd es ep)) (h:fD kd es ep):onCell σ i fL fD fI:=by
 unfold onCell
 exact e▸h
theorem onI {σ:Store} {i c:Nat} {fs:List (Nat×AV)} {fL:List AV->Prop} {fD:Nat->List (AV×AV)->Nat->Prop} {fI:Nat->List (Nat×AV)->Prop} (e:σ i=some (.inst c fs)) (h:fI c fs):onCell σ i fL fD fI:=by
 unfold onCell
 exact e▸h
end
section
abbrev Rho:=Nat->Option (Addr×Option Addr)
abbrev rowObj (T:String) (items:Array Value) (n:Nat):Obj:={ cls:=.type T,data:=.seq items n }
structure Places where
 fa:Nat->Addr
 ca:Nat->Addr
 tab:Addr->Option Str
 cdo:Names->Option (Addr×Addr×Str)
 lms:Nat->Option Lm
 led:Bool
 n0:Nat
noncomputable def IsIntSet (led:Bool) (o:Obj) (vs:List Int):Prop :=
 ∃ (es:Array (Int×Value)) (ep:Nat) (t:SetTable) (ns:List Int),o={ cls:=.type "set",data:=.set es ep t }/\t.fits es.size=true/\t.led=led/\t.plain=true/\t.place.toList.Pairwise (· < ·)/\es.size < 64 /\
  IntsAre (es.toList.map (·.2)) ns/\ns.Nodup/\∀ i,i∈ns↔i∈vs
structure CloFd (P:Places) (g:Heap) (l:Nat) (fd:FuncData):Prop where
 is:∃ lm b,P.lms l=some lm/\fd.body=.expr b/\chkLm lm fd.params b fd.scope=true
 glob:fd.globals=mainGlobals
 blt:fd.builtins=builtinsNs
 dfl:fd.defaults=.none
 kwd:fd.kwdefaults=.none
 code:g.CodeRec fd.code fd.qualname
 names:fd.closure.reverse.map (·.1)=(fd.scope.names.filter (·.2==NameKind.free)).map (·.1)
noncomputable def RowAt (g:Heap) (T:String) (f:List Value->Prop) (v:Value):Prop:=∃ a items n,v=.ref a/\g.get? a=some (rowObj T items n)/\f items.toList
noncomputable def InsAt (g:Heap) (c:Addr) (f:List DictEntry->Prop) (v:Value):Prop:=∃ a d es n,v=.ref a/\g.get? a=some (instObj c d)/\g.get? d=some (dictOf es n)/\f es
noncomputable def CloAt (P:Places) (g:Heap) (l:Nat) (f:List (Str×Addr)->Prop) (v:Value):Prop:=∃ a o fd,v=.ref a/\g.get? a=some o/\o.data=.func fd/\CloFd P g l fd/\f fd.closure.reverse
section
variable (P:Places) (g:Heap) (ρ:Rho)
mutual
noncomputable def VR:AV->Value->Prop
 | .none,v=>v=.none
 | .bool b,v=>v=.bool b
 | .int i,v=>∃ t,v=.int i t
 | .str s,v=>∃ t,v=.str s t
 | .bytes b,v=>∃ t,v=.bytes b.toArray t
 | .fn f,v=>v=.ref (P.fa f)
 | .cls c,v=>v=.ref (P.ca c)
 | .blt n,v=>∃ s,bnames[n]?=some s/\v=.builtin s
 | .typ n,v=>∃ s,tnames[n]?=some s/\v=.type s
 | .cell i,v=>∃ p,ρ i=some p/\v=.ref p.1
 | .tup vs,v=>RowAt g "tuple" (VRs vs) v
 | .lst vs,v=>RowAt g "list" (VRs vs) v
 | .inst c fs,v=>InsAt g (P.ca c) (VRf fs) v
 | .clo l caps,v=>CloAt P g l (VRc caps) v
 | .rng a b c,v=>∃ r t u w,v=.ref r/\IsRange g r a b c t u w
 | .set vs,v=>∃ a o,v=.ref a/\g.get? a=some o/\IsIntSet P.led o vs
noncomputable def VRs:List AV->List Value->Prop
 | [],l=>nilP l True
 | a :: as,l=>consP l fun w ws=>VR a w/\VRs as ws
noncomputable def VRc:List AV->List (Str×Addr)->Prop
 | [],l=>nilP l True
 | a :: as,l=>consP l fun c cs=>(∃ v,g.IsCell c.2 (some v)/\VR a v)/\VRc as cs
noncomputable def VRf:List (Nat×AV)->List DictEntry->Prop
 | [],l=>nilP l True
 | p :: fs,l=>consP l fun e es=>p.1 < 81/\(∃ t,e.key=.str (nm p.1) t)/\VR p.2 e.val/\VRf fs es
end
end
end
section
noncomputable def b0:S:=.cons (.ret (.call (.glb 46) (.cons (.cst (.str (.mk #[105,110,116,101,103,101,114]))) (.cons (.loc 0) .nil)))) .nil
noncomputable def fn0:Fn:=⟨2,[0],[],b0,false⟩
noncomputable def b1:S:=.cons (.ret (.call (.glb 46) (.cons (.cst (.str (.mk #[110,97,109,101]))) (.cons (.loc 0) (.cons (.loc 1) .nil))))) .nil
noncomputable def fn1:Fn:=⟨3,[0,1],[.bool false],b1,false⟩
noncomputable def b2:S:=.cons (.ret (.call (.glb 46) (.cons (.cst (.str (.mk #[100,105,99,116]))) (.cons (.loc 0) .nil)))) .nil
noncomputable def fn2:Fn:=⟨2,[0],[],b2,false⟩
noncomputable def b3:S:=.cons (.ret (.bop .Or (.cons (.cmp .Eq (.attr (.loc 0) 1) (.cst (.str (.mk #[105,110,116,101,103,101,114])))) (.cons (.cmp .Eq (.attr (.loc 0) 1) (.cst (.str (.mk #[114,101,97,108])))) .nil)))) .nil
noncomputable def fn3:Fn:=⟨1,[0],[],b3,false⟩
noncomputable def b4:S:=.cons (.ifs (.cmp .Eq (.attr (.loc 0) 1) (.cst (.str (.mk #[105,110,116,101,103,101,114])))) (.cons (.ret (.bin false .Mult (.attr (.loc 0) 2) (.glb 65))) .nil) .nil) (.cons (.ifs (.cmp .Eq (.attr (.loc 0) 1) (.cst (.str (.mk #[114,101,97,108])))) (.cons (.ret (.attr (.loc 0) 2)) .nil) .nil) (.cons (.raise (.cst (.bytes [116,121,112,101,99,104,101,99,107]))) .nil))
noncomputable def fn4:Fn:=⟨3,[0],[],b4,false⟩
noncomputable def b5:S:=.cons (.ret (.bop .Or (.cons (.cmp .Eq (.attr (.loc 0) 1) (.cst (.str (.mk #[97,114,114,97,121])))) (.cons (.cmp .Eq (.attr (.loc 0) 1) (.cst (.str (.mk #[112,97,99,107,101,100])))) .nil)))) .nil
noncomputable def fn5:Fn:=⟨1,[0],[],b5,false⟩
noncomputable def b6:S:=.cons (.ifs (.cmp .Eq (.attr (.loc 0) 1) (.cst (.str (.mk #[100,105,99,116])))) (.cons (.ret (.attr (.loc 0) 2)) .nil) .nil) (.cons (.ret (.ife (.bop .Or (.cons (.cmp .Eq (.attr (.loc 0) 1) (.cst (.str (.mk #[115,116,114,105,110,103])))) (.cons (.call (.glb 5) (.cons (.loc 0) .nil)) .nil))) (.attr (.attr (.loc 0) 2) 10) (.cst .none))) .nil)
noncomputable def fn6:Fn:=⟨2,[0],[],b6,false⟩
noncomputable def b7:S:=.cons (.asg (.simple (.loc 1)) (.call (.glb 6) (.cons (.loc 0) .nil))) (.cons (.ret (.bop .And (.cons (.cmp .IsNot (.loc 1) (.cst .none)) (.cons (.not (.attr (.loc 1) 7)) .nil)))) .nil)
noncomputable def fn7:Fn:=⟨3,[0],[],b7,false⟩
noncomputable def b8:S:=.cons (.ret (.ife (.cmp .Eq (.attr (.loc 0) 1) (.cst (.str (.mk #[100,105,99,116])))) (.attr (.attr (.loc 0) 2) 4) (.attr (.loc 0) 4))) .nil
noncomputable def fn8:Fn:=⟨1,[0],[],b8,false⟩
noncomputable def b9:S:=.cons (.ret (.cmp .GtE (.call (.glb 8) (.cons (.loc 0) .nil)) (.glb 67))) .nil
noncomputable def fn9:Fn:=⟨3,[0],[],b9,false⟩
noncomputable def b10:S:=.cons (.ret (.cmp .Eq (.call (.glb 8) (.cons (.loc 0) .nil)) (.glb 68))) .nil
noncomputable def fn10:Fn:=⟨3,[0],[],b10,false⟩
noncomputable def b11:S:=.cons (.ifs (.cmp .Eq (.attr (.loc 0) 1) (.cst (.str (.mk #[110,97,109,101])))) (.cons (.ret (.attr (.loc 0) 2)) .nil) .nil) (.cons (.ifs (.cmp .NotEq (.attr (.loc 0) 1) (.cst (.str (.mk #[115,116,114,105,110,103])))) (.cons (.raise (.cst (.bytes [116,121,112,101,99,104,101,99,107]))) .nil) .nil) (.cons (.ifs (.not (.call (.glb 9) (.cons (.loc 0) .nil))) (.cons (.raise (.cst (.bytes [105,110,118,97,108,105,100,97,99,99,101,115,115]))) .nil) .nil) (.cons (.ret (.call .bad (.cons (.attr (.loc 0) 2) .nil))) .nil)))
noncomputable def fn11:Fn:=⟨4,[0],[],b11,false⟩
noncomputable def b12:S:=.cons (.ifs (.cmp .Eq (.attr (.loc 0) 1) (.cst (.str (.mk #[110,117,108,108])))) (.cons (.raise (.cst (.bytes [116,121,112,101,99,104,101,99,107]))) .nil) .nil) (.cons (.ifs (.bop .Or (.cons (.cmp .Eq (.attr (.loc 0) 1) (.cst (.str (.mk #[110,97,109,101])))) (.cons (.cmp .Eq (.attr (.loc 0) 1) (.cst (.str (.mk #[115,116,114,105,110,103])))) .nil))) (.cons (.ret (.tup (.cons (.cst (.str (.mk #[119,111,114,100]))) (.cons (.call (.glb 11) (.cons (.loc 0) .nil)) .nil)))) .nil) .nil) (.cons (.ifs (.call (.glb 3) (.cons (.loc 0) .nil)) (.cons (.ret (.tup (.cons (.cst (.str (.mk #[110,117,109,98,101,114]))) (.cons (.call (.glb 4) (.cons (.loc 0) .nil)) .nil)))) .nil) .nil) (.cons (.ifs (.call (.glb 5) (.cons (.loc 0) .nil)) (.cons (.ret (.tup (.cons (.cst (.str (.mk #[97,114,114,97,121]))) (.cons (.attr (.attr (.attr (.loc 0) 2) 10) 5) (.cons (.attr (.attr (.loc 0) 2) 11) (.cons (.attr (.attr (.loc 0) 2) 12) .nil)))))) .nil) .nil) (.cons (.ifs (.bop .Or (.cons (.cmp .Eq (.attr (.loc 0) 1) (.cst (.str (.mk #[100,105,99,116])))) (.cons (.cmp .Eq (.attr (.loc 0) 1) (.cst (.str (.mk #[102,105,108,101])))) (.cons (.cmp .Eq (.attr (.loc 0) 1) (.cst (.str (.mk #[103,115,116,97,116,101])))) .nil)))) (.cons (.ret (.tup (.cons (.attr (.loc 0) 1) (.cons (.attr (.attr (.loc 0) 2) 5) .nil)))) .nil) .nil) (.cons (.ifs (.cmp .Eq (.attr (.loc 0) 1) (.cst (.str (.mk #[98,111,111,108,101,97,110])))) (.cons (.ret (.tup (.cons (.cst (.str (.mk #[98,111,111,108,101,97,110]))) (.cons (.ife (.attr (.loc 0) 2) (.cst (.int 1)) (.cst (.int 0))) .nil)))) .nil) .nil) (.cons (.ret (.tup (.cons (.attr (.loc 0) 1) (.cons (.attr (.loc 0) 2) .nil)))) .nil))))))
noncomputable def fn12:Fn:=⟨6,[0],[],b12,false⟩
noncomputable def b13:S:=.cons (.ret (.ife (.cmp .Eq (.attr (.loc 0) 1) (.cst (.str (.mk #[115,116,114,105,110,103])))) (.call (.glb 1) (.cons (.call (.glb 11) (.cons (.loc 0) .nil)) .nil)) (.loc 0))) .nil
noncomputable def fn13:Fn:=⟨3,[0],[],b13,false⟩
noncomputable def b14:S:=.cons (.ret (.call (.glb 52) (.cons (.attr (.loc 0) 9) .nil))) .nil
noncomputable def fn14:Fn:=⟨2,[0],[],b14,false⟩
noncomputable def b15:S:=.cons (.ifs (.not (.call (.glb 9) (.cons (.loc 0) .nil))) (.cons (.raise (.cst (.bytes [105,110,118,97,108,105,100,97,99,99,101,115,115]))) .nil) .nil) .nil
noncomputable def fn15:Fn:=⟨3,[0],[],b15,false⟩
noncomputable def b16:S:=.cons (.ifs (.not (.call (.glb 10) (.cons (.loc 0) .nil))) (.cons (.raise (.cst (.bytes [105,110,118,97,108,105,100,97,99,99,101,115,115]))) .nil) .nil) .nil
noncomputable def fn16:Fn:=⟨3,[0],[],b16,false⟩
noncomputable def b17:S:=.cons (.ret (.meth (.loc 0) 13 (.cons (.tup (.cons (.cst (.str (.mk #[119,111,114,100]))) (.cons (.loc 1) .nil))) .nil))) .nil
noncomputable def fn17:Fn:=⟨2,[0,1],[],b17,false⟩
noncomputable def b18:S:=.cons (.ret (.call (.glb 58) (.cons (.meth (.loc 0) 14 .nil) .nil))) .nil
noncomputable def fn18:Fn:=⟨2,[0],[],b18,false⟩
noncomputable def b19:S:=.cons (.asg (.simple (.loc 1)) (.lst true .nil)) (.cons (.for (.tup (.cons (.loc 2) (.cons (.loc 3) .nil))) (.meth (.loc 0) 14 .nil) (.cons (.ifs (.cmp .Eq (.attr (.loc 2) 1) (.cst (.str (.mk #[110,97,109,101])))) (.cons (.expr (.meth (.loc 1) 15 (.cons (.attr (.loc 2) 2) .nil))) .nil) .nil) .nil)) (.cons (.ret (.call (.glb 53) (.cons (.loc 1) .nil))) .nil))
noncomputable def fn19:Fn:=⟨5,[0],[],b19,false⟩
noncomputable def b20:S:=.cons (.asg (.simple (.loc 3)) (.dct 3 [] .nil)) (.cons (.for (.tup (.cons (.loc 4) (.cons (.loc 5) .nil))) (.loc 2) (.cons (.asg (.simple (.loc 6)) (.call (.glb 12) (.cons (.loc 4) .nil))) (.cons (.ifs (.cmp .NotIn (.loc 6) (.attr (.loc 1) 9)) (.cons (.asg (.sub (.loc 3) (.loc 6)) (.cst (.bool true))) .nil) .nil) (.cons (.ifs (.bop .And (.cons (.attr (.loc 1) 7) (.cons (.bop .Or (.cons (.bop .And (.cons (.call (.glb 7) (.cons (.loc 4) .nil)) (.cons (.cmp .NotEq (.attr (.loc 4) 1) (.cst (.str (.mk #[115,116,114,105,110,103])))) .nil))) (.cons (.call (.glb 7) (.cons (.loc 5) .nil)) .nil))) .nil))) (.cons (.raise (.cst (.bytes [105,110,118,97,108,105,100,97,99,99,101,115,115]))) .nil) .nil) .nil)))) (.cons (.ifs (.cmp .Gt (.bin false .Add (.call (.glb 52) (.cons (.attr (.loc 1) 9) .nil)) (.call (.glb 52) (.cons (.loc 3) .nil))) (.call (.glb 54) (.cons (.attr (.loc 1) 6) (.cons (.attr (.attr (.loc 0) 16) 9) .nil)))) (.cons (.raise (.cst (.bytes [100,105,99,116,102,117,108,108]))) .nil) .nil) (.cons (.for (.tup (.cons (.loc 4) (.cons (.loc 5) .nil))) (.loc 2) (.cons (.expr (.meth (.loc 0) 17 (.cons (.loc 1) (.cons (.loc 4) (.cons (.loc 5) .nil))))) .nil)) .nil)))
noncomputable def fn20:Fn:=⟨12,[0,1,2],[],b20,false⟩
noncomputable def b21:S:=.cons (.expr (.call (.glb 15) (.cons (.loc 1) .nil))) (.cons (.expr (.call (.glb 16) (.cons (.loc 2) .nil))) (.cons (.ifs (.cmp .NotEq (.attr (.attr (.loc 1) 2) 5) (.attr (.attr (.loc 2) 2) 5)) (.cons (.expr (.call (.glb 20) (.cons (.loc 0) (.cons (.attr (.loc 2) 2) (.cons (.call (.glb 18) (.cons (.attr (.loc 1) 2) .nil)) .nil))))) .nil) .nil) (.cons (.ret (.loc 2)) .nil)))
noncomputable def fn21:Fn:=⟨7,[0,1,2],[],b21,false⟩
noncomputable def b22:S:=.cons (.ifs (.bop .Or (.cons (.cmp .NotEq (.attr (.loc 0) 1) (.attr (.loc 1) 1)) (.cons (.cmp .NotEq (.attr (.loc 0) 3) (.attr (.loc 1) 3)) .nil))) (.cons (.ret (.cst (.bool false))) .nil) .nil) (.cons (.ifs (.cmp .Eq (.attr (.loc 0) 1) (.cst (.str (.mk #[115,116,114,105,110,103])))) (.cons (.asg (.tup 2 (.cons (.simple (.loc 2)) (.cons (.simple (.loc 3)) .nil))) (.tup (.cons (.attr (.loc 0) 2) (.cons (.attr (.loc 1) 2) .nil)))) (.cons (.ret (.cmp .Eq (.tup (.cons (.attr (.attr (.loc 2) 10) 5) (.cons (.attr (.loc 2) 11) (.cons (.attr (.loc 2) 12) .nil)))) (.tup (.cons (.attr (.attr (.loc 3) 10) 5) (.cons (.attr (.loc 3) 11) (.cons (.attr (.loc 3) 12) .nil)))))) .nil)) .nil) (.cons (.ret (.bop .Or (.cons (.cmp .Eq (.attr (.loc 0) 1) (.cst (.str (.mk #[110,117,108,108])))) (.cons (.cmp .Eq (.call (.glb 12) (.cons (.loc 0) .nil)) (.call (.glb 12) (.cons (.loc 1) .nil))) .nil)))) .nil))
noncomputable def fn22:Fn:=⟨5,[0,1],[],b22,false⟩
noncomputable def b23:S:=.cons (.ifs (.cmp .NotEq (.call (.glb 52) (.cons (.attr (.loc 0) 9) .nil)) (.call (.glb 52) (.cons (.attr (.loc 1) 9) .nil))) (.cons (.ret (.cst (.bool false))) .nil) .nil) (.cons (.for (.loc 2) (.attr (.loc 0) 9) (.cons (.ifs (.cmp .NotIn (.loc 2) (.attr (.loc 1) 9)) (.cons (.ret (.cst (.bool false))) .nil) .nil) (.cons (.ifs (.not (.call (.glb 22) (.cons (.sub (.sub (.attr (.loc 0) 9) (.loc 2)) (.cst (.int 1))) (.cons (.sub (.sub (.attr (.loc 1) 9) (.loc 2)) (.cst (.int 1))) .nil)))) (.cons (.ret (.cst (.bool false))) .nil) .nil) .nil))) (.cons (.ret (.cst (.bool true))) .nil))
noncomputable def fn23:Fn:=⟨5,[0,1],[],b23,false⟩
noncomputable def b24:S:=.cons (.ret (.lst false (.cons (.cst (.bytes [115,121,115,116,101,109,100,105,99,116])) (.cons (.cst (.bytes [103,108,111,98,97,108,100,105,99,116])) (.cons (.cst (.bytes [115,116,97,116,117,115,100,105,99,116])) (.cons (.cst (.bytes [101,114,114,111,114,100,105,99,116])) (.cons (.cst (.bytes [36,101,114,114,111,114])) .nil))))))) .nil
noncomputable def fn24:Fn:=⟨0,[],[],b24,false⟩
noncomputable def b25:S:=.cons (.expr (.call (.glb 15) (.cons (.loc 0) .nil))) (.cons (.ret (.call (.glb 18) (.cons (.attr (.loc 0) 2) .nil))) .nil)
noncomputable def fn25:Fn:=⟨3,[0],[],b25,false⟩
noncomputable def b26:S:=.cons (.asg (.simple (.loc 1)) (.cst (.int 0))) (.cons (.for (.loc 2) (.meth (.attr (.loc 0) 24) 23 .nil) (.cons (.aug 1 .Add (.call (.glb 14) (.cons (.attr (.loc 2) 2) .nil))) .nil)) (.cons (.ret (.tup (.cons (.attr (.attr (.loc 0) 24) 12) (.cons (.loc 1) .nil)))) .nil))
noncomputable def fn26:Fn:=⟨4,[0],[],b26,false⟩
noncomputable def b27:S:=.cons (.ifs (.cmp .Lt (.loc 0) (.cst (.int 0))) (.cons (.raise (.cst (.bytes [114,97,110,103,101,99,104,101,99,107]))) .nil) .nil) (.cons (.ifs (.cmp .Gt (.loc 0) (.loc 1)) (.cons (.raise (.cst (.bytes [108,105,109,105,116,99,104,101,99,107]))) .nil) .nil) .nil)
noncomputable def fn27:Fn:=⟨3,[0,1],[],b27,false⟩
noncomputable def b28:S:=.cons (.asg (.tup 3 (.cons (.simple (.loc 2)) (.cons (.simple (.loc 3)) (.cons (.simple (.loc 4)) .nil)))) (.loc 0)) (.cons (.asg (.simple (.loc 5)) (.ife (.cmp .Lt (.loc 3) (.call (.glb 52) (.cons (.loc 2) .nil))) (.sub (.loc 2) (.loc 3)) (.loc 4))) (.cons (.asg (.tup 2 (.cons (.sub (.loc 0) (.cst (.int 1))) (.cons (.sub (.loc 0) (.cst (.int 2))) .nil))) (.tup (.cons (.bin false .Add (.loc 3) (.cst (.int 1))) (.cons (.bin false .Mod (.bin false .Add (.bin false .Add (.bin false .Add (.bin false .Mult (.loc 4) (.cst (.int 43))) (.bin false .Mod (.loc 5) (.cst (.int 9949)))) (.bin false .Mult (.cst (.int 11)) (.loc 3))) (.cst (.int 17))) (.cst (.int 100043))) .nil)))) (.cons (.ret (.bin false .Mod (.loc 5) (.loc 1))) .nil)))
noncomputable def fn28:Fn:=⟨7,[0,1],[],b28,false⟩
noncomputable def b29:S:=.cons (.asg (.tup 2 (.cons (.simple (.loc 1)) (.cons (.simple (.loc 2)) .nil))) (.sub (.glb 73) (.loc 0))) (.cons (.ret (.ife (.cmp .Eq (.loc 1) (.cst (.str (.mk #[110,97,109,101])))) (.call (.glb 1) (.cons (.loc 2) .nil)) (.call (.glb 0) (.cons (.loc 2) .nil)))) .nil)
noncomputable def fn29:Fn:=⟨6,[0],[],b29,false⟩
noncomputable def b30:S:=.cons (.ret (.comp false (.tup (.cons (.attr (.loc 1) 1) (.cons (.attr (.loc 1) 2) (.cons (.attr (.loc 2) 1) (.cons (.attr (.loc 2) 2) .nil))))) (.tup (.cons (.loc 1) (.cons (.loc 2) .nil))) (.loc 0) .nil 3 [])) .nil
noncomputable def fn30:Fn:=⟨1,[0],[],b30,false⟩
noncomputable def b31:S:=.cons (.ret (.comp false (.bin false .Add (.sub (.glb 73) (.loc 1)) (.tup (.cons (.cst (.str (.mk #[105,110,116,101,103,101,114]))) (.cons (.loc 2) .nil)))) (.tup (.cons (.loc 1) (.cons (.loc 2) .nil))) (.loc 0) .nil 4 [])) .nil
noncomputable def fn31:Fn:=⟨1,[0],[],b31,false⟩
noncomputable def b32:S:=.cons (.ifs (.cmp .In (.loc 1) (.comp false (.loc 1) (.tup (.cons (.loc 1) (.cons (.loc 2) .nil))) (.loc 0) .nil 3 [])) (.cons (.ret (.comp false (.tup (.cons (.loc 1) (.cons (.ife (.cmp .Eq (.loc 1) (.loc 3)) (.loc 4) (.loc 2)) .nil))) (.tup (.cons (.loc 1) (.cons (.loc 2) .nil))) (.loc 0) .nil 5 [(3,1),(4,2)])) .nil) .nil) (.cons (.ret (.bin false .Add (.loc 0) (.lst false (.cons (.tup (.cons (.loc 1) (.cons (.loc 2) .nil))) .nil)))) .nil)
noncomputable def fn32:Fn:=⟨3,[0,1,2],[],b32,false⟩
noncomputable def b33:S:=.cons (.for (.loc 2) (.rev (.sub (.loc 0) (.cst (.str (.mk #[115,116,97,99,107])))) (.neg (.cst (.int 1)))) (.cons (.ifs (.cmp .Lt (.sub (.sub (.loc 0) (.cst (.str (.mk #[97,99,99,101,115,115])))) (.loc 2)) (.cst (.int 2))) (.cons (.ret (.neg (.cst (.int 1)))) .nil) .nil) (.cons (.ifs (.cmp .In (.loc 1) (.comp false (.loc 1) (.tup (.cons (.loc 1) (.cons (.loc 2) .nil))) (.sub (.sub (.loc 0) (.cst (.str (.mk #[112,97,105,114,115])))) (.loc 2)) .nil 3 [])) (.cons (.ret (.loc 2)) .nil) .nil) .nil))) (.cons (.ret (.cst .none)) .nil)
noncomputable def fn33:Fn:=⟨3,[0,1],[],b33,false⟩
noncomputable def b34:S:=.cons (.tryret (.ife (.cmp .Eq (.call (.glb 52) (.cons (.loc 1) .nil)) (.cst (.int 2))) (.call (.loc 0) (.cons (.sub (.loc 1) (.cst (.int 0))) (.cons (.sub (.loc 1) (.cst (.int 1))) .nil))) (.call (.loc 0) (.cons (.sub (.loc 1) (.cst (.int 0))) (.cons (.sub (.loc 1) (.cst (.int 1))) (.cons (.sub (.loc 1) (.cst (.int 2))) .nil))))) 2) .nil
noncomputable def fn34:Fn:=⟨5,[0,1],[],b34,false⟩
noncomputable def b35:S:=.cons (.asg (.simple (.loc 4)) (.call (.glb 34) (.cons (.lam 0 []) (.cons (.lst false (.cons (.loc 1) (.cons (.sub (.loc 2) (.loc 3)) .nil))) .nil)))) (.cons (.ifs (.cmp .Lt (.sub (.sub (.loc 0) (.cst (.str (.mk #[97,99,99,101,115,115])))) (.loc 3)) (.cst (.int 2))) (.cons (.ret (.cmp .Eq (.loc 4) (.cst (.bytes [105,110,118,97,108,105,100,97,99,99,101,115,115])))) .nil) .nil) (.cons (.ifs (.cmp .GtE (.call (.glb 52) (.cons (.sub (.loc 0) (.cst (.str (.mk #[115,116,97,99,107])))) .nil)) (.sub (.loc 0) (.cst (.str (.mk #[109,111,115,116]))))) (.cons (.ret (.cmp .Eq (.loc 4) (.cst (.bytes [100,105,99,116,115,116,97,99,107,111,118,101,114,102,108,111,119])))) .nil) .nil) (.cons (.asg (.sub (.loc 0) (.cst (.str (.mk #[115,116,97,99,107])))) (.bin false .Add (.sub (.loc 0) (.cst (.str (.mk #[115,116,97,99,107])))) (.lst false (.cons (.loc 3) .nil)))) (.cons (.ret (.cmp .Is (.loc 4) (.cst .none))) .nil))))
noncomputable def fn35:Fn:=⟨7,[0,1,2,3],[],b35,false⟩
noncomputable def b36:S:=.cons (.asg (.simple (.loc 3)) (.call (.glb 34) (.cons (.lam 1 []) (.cons (.lst false (.cons (.loc 1) (.cons (.cst .none) .nil))) .nil)))) (.cons (.ifs (.cmp .Eq (.call (.glb 52) (.cons (.sub (.loc 0) (.cst (.str (.mk #[115,116,97,99,107])))) .nil)) (.cst (.int 3))) (.cons (.ret (.cmp .Eq (.loc 3) (.cst (.bytes [100,105,99,116,115,116,97,99,107,117,110,100,101,114,102,108,111,119])))) .nil) .nil) (.cons (.asg (.tup 2 (.cons (.simple (.loc 4)) (.cons (.sub (.loc 0) (.cst (.str (.mk #[115,116,97,99,107])))) .nil))) (.tup (.cons (.sub (.sub (.loc 0) (.cst (.str (.mk #[115,116,97,99,107])))) (.neg (.cst (.int 1)))) (.cons (.upto false (.sub (.loc 0) (.cst (.str (.mk #[115,116,97,99,107])))) (.neg (.cst (.int 1)))) .nil)))) (.cons (.ret (.bop .And (.cons (.cmp .NotEq (.loc 3) (.cst (.bytes [100,105,99,116,115,116,97,99,107,117,110,100,101,114,102,108,111,119]))) (.cons (.cmp .Is (.attr (.loc 3) 2) (.attr (.sub (.loc 2) (.loc 4)) 2)) .nil)))) .nil)))
noncomputable def fn36:Fn:=⟨7,[0,1,2],[],b36,false⟩
noncomputable def b37:S:=.cons (.asg (.simple (.loc 6)) (.ife (.loc 5) (.call (.glb 33) (.cons (.loc 0) (.cons (.loc 3) .nil))) (.cst .none))) (.cons (.asg (.simple (.loc 7)) (.ife (.cmp .Is (.loc 6) (.cst .none)) (.sub (.sub (.loc 0) (.cst (.str (.mk #[115,116,97,99,107])))) (.neg (.cst (.int 1)))) (.loc 6))) (.cons (.asg (.simple (.loc 8)) (.lst false (.cons (.loc 1) (.cons (.call (.glb 29) (.cons (.loc 3) .nil)) (.cons (.call (.glb 0) (.cons (.loc 4) .nil)) .nil))))) (.cons (.ifs (.loc 5) (.cons (.asg (.simple (.loc 9)) (.call (.glb 34) (.cons (.lam 2 [2]) (.cons (.loc 8) .nil)))) .nil) (.cons (.asg (.simple (.loc 9)) (.call (.glb 34) (.cons (.lam 3 [2]) (.cons (.loc 8) .nil)))) .nil)) (.cons (.ifs (.bop .Or (.cons (.cmp .Eq (.loc 7) (.neg (.cst (.int 1)))) (.cons (.cmp .Lt (.sub (.sub (.loc 0) (.cst (.str (.mk #[97,99,99,101,115,115])))) (.loc 7)) (.cst (.int 3))) .nil))) (.cons (.ret (.cmp .Eq (.loc 9) (.cst (.bytes [105,110,118,97,108,105,100,97,99,99,101,115,115])))) .nil) .nil) (.cons (.asg (.sub (.sub (.loc 0) (.cst (.str (.mk #[112,97,105,114,115])))) (.loc 7)) (.call (.glb 32) (.cons (.sub (.sub (.loc 0) (.cst (.str (.mk #[112,97,105,114,115])))) (.loc 7)) (.cons (.loc 3) (.cons (.loc 4) .nil))))) (.cons (.ret (.not (.call (.glb 56) (.cons (.loc 9) (.cons (.glb 60) .nil))))) .nil))))))
noncomputable def fn37:Fn:=⟨17,[0,1,2,3,4,5],[],b37,false⟩
noncomputable def b38:S:=.cons (.asg (.simple (.loc 5)) (.call (.glb 34) (.cons (.lam 4 []) (.cons (.lst false (.cons (.loc 1) (.cons (.sub (.loc 2) (.loc 3)) (.cons (.sub (.loc 2) (.loc 4)) .nil)))) .nil)))) (.cons (.ifs (.bop .Or (.cons (.cmp .Lt (.sub (.sub (.loc 0) (.cst (.str (.mk #[97,99,99,101,115,115])))) (.loc 3)) (.cst (.int 2))) (.cons (.cmp .Lt (.sub (.sub (.loc 0) (.cst (.str (.mk #[97,99,99,101,115,115])))) (.loc 4)) (.cst (.int 3))) .nil))) (.cons (.ret (.cmp .Eq (.loc 5) (.cst (.bytes [105,110,118,97,108,105,100,97,99,99,101,115,115])))) .nil) .nil) (.cons (.for (.tup (.cons (.loc 6) (.cons (.loc 7) .nil))) (.call (.glb 58) (.cons (.sub (.sub (.loc 0) (.cst (.str (.mk #[112,97,105,114,115])))) (.loc 3)) .nil)) (.cons (.asg (.sub (.sub (.loc 0) (.cst (.str (.mk #[112,97,105,114,115])))) (.loc 4)) (.call (.glb 32) (.cons (.sub (.sub (.loc 0) (.cst (.str (.mk #[112,97,105,114,115])))) (.loc 4)) (.cons (.loc 6) (.cons (.loc 7) .nil))))) .nil)) (.cons (.ret (.bop .And (.cons (.not (.call (.glb 56) (.cons (.loc 5) (.cons (.glb 60) .nil)))) (.cons (.cmp .Is (.attr (.loc 5) 2) (.attr (.sub (.loc 2) (.loc 4)) 2)) .nil)))) .nil)))
noncomputable def fn38:Fn:=⟨13,[0,1,2,3,4],[],b38,false⟩
noncomputable def b39:S:=.cons (.asg (.tup 2 (.cons (.simple (.loc 5)) (.cons (.simple (.loc 6)) .nil))) (.tup (.cons (.bin false .Mod (.loc 4) (.cst (.int 9))) (.cons (.bin false .FloorDiv (.loc 4) (.cst (.int 9))) .nil)))) (.cons (.asg (.tup 3 (.cons (.simple (.loc 7)) (.cons (.simple (.cel 8)) (.cons (.simple (.loc 9)) .nil)))) (.tup (.cons (.bin false .Mod (.loc 6) (.cst (.int 5))) (.cons (.bin false .Mod (.bin false .FloorDiv (.loc 6) (.cst (.int 5))) (.cst (.int 4))) (.cons (.bin false .Mod (.bin false .FloorDiv (.loc 6) (.cst (.int 20))) (.cst (.int 6))) .nil))))) (.cons (.ifs (.cmp .Lt (.loc 5) (.cst (.int 2))) (.cons (.ret (.call (.glb 35) (.cons (.loc 0) (.cons (.loc 1) (.cons (.loc 3) (.cons (.loc 7) .nil)))))) .nil) .nil) (.cons (.ifs (.cmp .Eq (.loc 5) (.cst (.int 2))) (.cons (.ret (.call (.glb 36) (.cons (.loc 0) (.cons (.loc 1) (.cons (.loc 3) .nil))))) .nil) .nil) (.cons (.ifs (.bop .Or (.cons (.cmp .Eq (.loc 5) (.cst (.int 3))) (.cons (.cmp .Eq (.loc 5) (.cst (.int 4))) .nil))) (.cons (.ret (.call (.glb 37) (.cons (.loc 0) (.cons (.loc 1) (.cons (.loc 2) (.cons (.loc 8) (.cons (.loc 9) (.cons (.cmp .Eq (.loc 5) (.cst (.int 4))) .nil)))))))) .nil) .nil) (.cons (.ifs (.cmp .Eq (.loc 5) (.cst (.int 5))) (.cons (.asg (.simple (.loc 10)) (.bin false .Mod (.bin false .FloorDiv (.loc 6) (.cst (.int 5))) (.cst (.int 5)))) (.cons (.ret (.call (.glb 38) (.cons (.loc 0) (.cons (.loc 2) (.cons (.loc 3) (.cons (.loc 7) (.cons (.ife (.cmp .NotEq (.loc 10) (.loc 7)) (.loc 10) (.bin false .Mod (.bin false .Add (.loc 7) (.cst (.int 1))) (.cst (.int 5)))) .nil))))))) .nil)) .nil) (.cons (.ifs (.cmp .Eq (.loc 5) (.cst (.int 6))) (.cons (.expr (.meth (.loc 2) 17 (.cons (.attr (.sub (.loc 3) (.loc 7)) 2) (.cons (.call (.glb 29) (.cons (.loc 8) .nil)) (.cons (.call (.glb 0) (.cons (.loc 9) .nil)) .nil))))) (.cons (.asg (.sub (.sub (.loc 0) (.cst (.str (.mk #[112,97,105,114,115])))) (.loc 7)) (.call (.glb 32) (.cons (.sub (.sub (.loc 0) (.cst (.str (.mk #[112,97,105,114,115])))) (.loc 7)) (.cons (.loc 8) (.cons (.loc 9) .nil))))) .nil)) (.cons (.ifs (.cmp .Eq (.loc 5) (.cst (.int 7))) (.cons (.expr (.meth (.loc 2) 73 (.cons (.attr (.sub (.loc 3) (.loc 7)) 2) (.cons (.call (.glb 29) (.cons (.loc 8) .nil)) .nil)))) (.cons (.asg (.sub (.sub (.loc 0) (.cst (.str (.mk #[112,97,105,114,115])))) (.loc 7)) (.comp false (.loc 1) (.loc 1) (.sub (.sub (.loc 0) (.cst (.str (.mk #[112,97,105,114,115])))) (.loc 7)) (.cons (.cmp .NotEq (.sub (.loc 1) (.cst (.int 0))) (.loc 2)) .nil) 3 [(2,8)])) .nil)) (.cons (.ifs (.cmp .Eq (.bin false .Mod (.loc 6) (.cst (.int 7))) (.cst (.int 0))) (.cons (.expr (.meth (.loc 1) 74 .nil)) (.cons (.asg (.sub (.loc 0) (.cst (.str (.mk #[115,116,97,99,107])))) (.upto false (.sub (.loc 0) (.cst (.str (.mk #[115,116,97,99,107])))) (.cst (.int 3)))) .nil)) (.cons (.ifs (.cmp .Eq (.bin false .Mod (.loc 6) (.cst (.int 3))) (.cst (.int 0))) (.cons (.asg (.simple (.loc 11)) (.call (.glb 55) (.cons (.sub (.sub (.loc 0) (.cst (.str (.mk #[97,99,99,101,115,115])))) (.loc 7)) (.cons (.bin false .Add (.cst (.int 1)) (.bin false .Mod (.loc 9) (.cst (.int 3)))) .nil)))) (.cons (.expr (.meth (.loc 2) 75 (.cons (.attr (.sub (.loc 3) (.loc 7)) 2) (.cons (.loc 11) .nil)))) (.cons (.asg (.sub (.sub (.loc 0) (.cst (.str (.mk #[97,99,99,101,115,115])))) (.loc 7)) (.loc 11)) .nil))) .nil) .nil)) .nil)) .nil)) (.cons (.ret (.cst (.bool true))) .nil)))))))
noncomputable def fn39:Fn:=⟨20,[0,1,2,3,4],[],b39,true⟩
noncomputable def b40:S:=.cons (.for (.loc 3) (.call (.glb 59) (.cons (.cst (.int 4)) .nil)) (.cons (.asg (.tup 2 (.cons (.simple (.loc 4)) (.cons (.simple (.loc 5)) .nil))) (.tup (.cons (.call (.glb 33) (.cons (.loc 0) (.cons (.loc 3) .nil))) (.cons (.call (.glb 29) (.cons (.loc 3) .nil)) .nil)))) (.cons (.asg (.simple (.loc 6)) (.call (.glb 34) (.cons (.lam 5 []) (.cons (.lst false (.cons (.loc 1) (.cons (.loc 5) .nil))) .nil)))) (.cons (.asg (.simple (.loc 7)) (.call (.glb 34) (.cons (.lam 6 []) (.cons (.lst false (.cons (.loc 1) (.cons (.loc 5) .nil))) .nil)))) (.cons (.asg (.simple (.loc 8)) (.call (.glb 34) (.cons (.lam 7 []) (.cons (.lst false (.cons (.loc 1) (.cons (.loc 5) .nil))) .nil)))) (.cons (.ifs (.cmp .Eq (.loc 4) (.neg (.cst (.int 1)))) (.cons (.ifs (.cmp .NotEq (.tup (.cons (.loc 6) (.cons (.loc 7) (.cons (.loc 8) .nil)))) (.tup (.cons (.cst (.bytes [105,110,118,97,108,105,100,97,99,99,101,115,115])) (.cons (.cst (.bytes [105,110,118,97,108,105,100,97,99,99,101,115,115])) (.cons (.cst (.bytes [105,110,118,97,108,105,100,97,99,99,101,115,115])) .nil))))) (.cons (.ret (.cst (.bool false))) .nil) .nil) .nil) (.cons (.ifs (.cmp .Is (.loc 4) (.cst .none)) (.cons (.ifs (.bop .Or (.cons (.cmp .IsNot (.loc 6) (.cst .none)) (.cons (.cmp .IsNot (.loc 7) (.cst .none)) (.cons (.cmp .NotEq (.loc 8) (.cst (.bytes [117,110,100,101,102,105,110,101,100]))) .nil)))) (.cons (.ret (.cst (.bool false))) .nil) .nil) .nil) (.cons (.asg (.simple (.loc 9)) (.sub (.call (.glb 61) (.cons (.sub (.sub (.loc 0) (.cst (.str (.mk #[112,97,105,114,115])))) (.loc 4)) .nil)) (.loc 3))) (.cons (.ifs (.bop .Or (.cons (.cmp .IsNot (.sub (.loc 6) (.cst (.int 0))) (.attr (.sub (.loc 2) (.loc 4)) 2)) (.cons (.cmp .IsNot (.attr (.loc 7) 2) (.attr (.sub (.loc 2) (.loc 4)) 2)) .nil))) (.cons (.ret (.cst (.bool false))) .nil) .nil) (.cons (.ifs (.cmp .NotEq (.tup (.cons (.attr (.sub (.loc 6) (.cst (.int 1))) 1) (.cons (.attr (.sub (.loc 6) (.cst (.int 1))) 2) (.cons (.attr (.loc 8) 1) (.cons (.attr (.loc 8) 2) .nil))))) (.tup (.cons (.cst (.str (.mk #[105,110,116,101,103,101,114]))) (.cons (.loc 9) (.cons (.cst (.str (.mk #[105,110,116,101,103,101,114]))) (.cons (.loc 9) .nil)))))) (.cons (.ret (.cst (.bool false))) .nil) .nil) .nil)))) .nil)) .nil)))))) (.cons (.ret (.cst (.bool true))) .nil)
noncomputable def fn40:Fn:=⟨15,[0,1,2],[],b40,false⟩
noncomputable def b41:S:=.cons (.ret (.call (.glb 53) (.cons (.comp false (.sub (.sub (.glb 73) (.loc 1)) (.cst (.int 1))) (.tup (.cons (.loc 1) (.cons (.loc 2) .nil))) (.sub (.sub (.loc 0) (.cst (.str (.mk #[112,97,105,114,115])))) (.loc 1)) (.cons (.cmp .Lt (.loc 1) (.cst (.int 3))) .nil) 4 []) .nil))) .nil
noncomputable def fn41:Fn:=⟨3,[0,1],[],b41,false⟩
noncomputable def b42:S:=.cons (.asg (.tup 2 (.cons (.simple (.loc 3)) (.cons (.simple (.loc 4)) .nil))) (.tup (.cons (.attr (.sub (.loc 1) (.loc 2)) 2) (.cons (.call (.glb 31) (.cons (.sub (.sub (.loc 0) (.cst (.str (.mk #[112,97,105,114,115])))) (.loc 2)) .nil)) .nil)))) (.cons (.ifs (.bop .Or (.cons (.cmp .NotEq (.call (.glb 30) (.cons (.call (.glb 18) (.cons (.loc 3) .nil)) .nil)) (.loc 4)) (.cons (.cmp .NotEq (.call (.glb 14) (.cons (.loc 3) .nil)) (.call (.glb 52) (.cons (.loc 4) .nil))) .nil))) (.cons (.ret (.cst (.bool false))) .nil) .nil) (.cons (.ifs (.cmp .NotEq (.call (.glb 58) (.cons (.call (.glb 19) (.cons (.loc 3) .nil)) .nil)) (.call (.glb 41) (.cons (.loc 0) (.cons (.loc 2) .nil)))) (.cons (.ret (.cst (.bool false))) .nil) .nil) (.cons (.asg (.simple (.loc 5)) (.call (.glb 34) (.cons (.lam 8 []) (.cons (.lst false (.cons (.sub (.loc 1) (.loc 2)) (.cons (.cst .none) .nil))) .nil)))) (.cons (.ifs (.cmp .Lt (.sub (.sub (.loc 0) (.cst (.str (.mk #[97,99,99,101,115,115])))) (.loc 2)) (.cst (.int 2))) (.cons (.ifs (.cmp .NotEq (.loc 5) (.cst (.bytes [105,110,118,97,108,105,100,97,99,99,101,115,115]))) (.cons (.ret (.cst (.bool false))) .nil) .nil) .nil) (.cons (.ifs (.bop .Or (.cons (.call (.glb 56) (.cons (.loc 5) (.cons (.glb 60) .nil))) (.cons (.cmp .NotEq (.call (.glb 30) (.cons (.loc 5) .nil)) (.loc 4)) .nil))) (.cons (.ret (.cst (.bool false))) .nil) .nil) .nil)) (.cons (.for (.loc 6) (.call (.glb 59) (.cons (.cst (.int 3)) .nil)) (.cons (.asg (.simple (.loc 7)) (.call (.glb 17) (.cons (.loc 3) (.cons (.sub (.sub (.glb 73) (.loc 6)) (.cst (.int 1))) .nil)))) (.cons (.ifs (.cmp .NotEq (.ife (.cmp .Is (.loc 7) (.cst .none)) (.cst .none) (.attr (.loc 7) 2)) (.meth (.call (.glb 61) (.cons (.sub (.sub (.loc 0) (.cst (.str (.mk #[112,97,105,114,115])))) (.loc 2)) .nil)) 13 (.cons (.loc 6) .nil))) (.cons (.ret (.cst (.bool false))) .nil) .nil) .nil))) (.cons (.ret (.cst (.bool true))) .nil))))))
noncomputable def fn42:Fn:=⟨23,[0,1,2],[],b42,false⟩
noncomputable def b43:S:=.cons (.asg (.simple (.cel 4)) (.comp false (.attr (.sub (.loc 2) (.loc 1)) 2) (.loc 1) (.sub (.loc 0) (.cst (.str (.mk #[115,116,97,99,107])))) .nil 3 [(2,2)])) (.cons (.asg (.simple (.cel 5)) (.comp false (.attr (.loc 1) 2) (.loc 1) (.meth (.loc 1) 23 .nil) .nil 2 [])) (.cons (.ifs (.bop .Or (.cons (.cmp .NotEq (.attr (.loc 1) 12) (.call (.glb 52) (.cons (.loc 4) .nil))) (.cons (.cmp .NotEq (.call (.glb 52) (.cons (.loc 5) .nil)) (.call (.glb 52) (.cons (.loc 4) .nil))) (.cons (.cmp .IsNot (.attr (.meth (.loc 1) 21 .nil) 2) (.sub (.loc 4) (.neg (.cst (.int 1))))) .nil)))) (.cons (.ret (.cst (.bool false))) .nil) .nil) (.cons (.ifs (.cmp .NotEq (.comp false (.loc 1) (.loc 1) (.call (.glb 59) (.cons (.call (.glb 52) (.cons (.loc 4) .nil)) .nil)) (.cons (.cmp .IsNot (.sub (.loc 3) (.loc 1)) (.sub (.loc 2) (.loc 1))) .nil) 4 [(2,4),(3,5)]) (.lst false .nil)) (.cons (.ret (.cst (.bool false))) .nil) .nil) (.cons (.ifs (.cmp .NotEq (.comp false (.meth (.loc 2) 77 (.cons (.attr (.loc 1) 2) .nil)) (.loc 1) (.loc 2) .nil 3 [(2,1)]) (.comp false (.cmp .In (.loc 1) (.sub (.loc 2) (.cst (.str (.mk #[115,116,97,99,107]))))) (.loc 1) (.call (.glb 59) (.cons (.cst (.int 5)) .nil)) .nil 3 [(2,0)])) (.cons (.ret (.cst (.bool false))) .nil) .nil) (.cons (.asg (.simple (.loc 6)) (.call (.glb 34) (.cons (.lam 9 []) (.cons (.lst false (.cons (.loc 1) (.cons (.cst .none) .nil))) .nil)))) (.cons (.asg (.simple (.loc 7)) (.call (.glb 34) (.cons (.lam 10 []) (.cons (.lst false (.cons (.loc 1) (.cons (.cst .none) .nil))) .nil)))) (.cons (.ifs (.cmp .Lt (.call (.glb 55) (.cons (.comp false (.sub (.sub (.loc 2) (.cst (.str (.mk #[97,99,99,101,115,115])))) (.loc 1)) (.loc 1) (.sub (.loc 0) (.cst (.str (.mk #[115,116,97,99,107])))) .nil 3 [(2,0)]) .nil)) (.cst (.int 2))) (.cons (.ret (.bop .And (.cons (.cmp .Eq (.loc 6) (.cst (.bytes [105,110,118,97,108,105,100,97,99,99,101,115,115]))) (.cons (.cmp .Eq (.loc 7) (.cst (.bytes [105,110,118,97,108,105,100,97,99,99,101,115,115]))) .nil)))) .nil) .nil) (.cons (.asg (.simple (.cel 8)) (.dct 1 [] .nil)) (.cons (.for (.loc 3) (.call (.glb 53) (.cons (.call (.glb 62) (.cons (.sub (.loc 0) (.cst (.str (.mk #[115,116,97,99,107])))) .nil)) .nil)) (.cons (.for (.loc 9) (.call (.glb 41) (.cons (.loc 0) (.cons (.loc 3) .nil))) (.cons (.asg (.sub (.loc 8) (.loc 9)) (.bin false .Add (.meth (.loc 8) 13 (.cons (.loc 9) (.cons (.cst (.int 0)) .nil))) (.cst (.int 1)))) .nil)) .nil)) (.cons (.asg (.simple (.loc 10)) (.comp false (.loc 1) (.loc 1) (.call (.glb 53) (.cons (.loc 8) .nil)) (.cons (.cmp .Gt (.sub (.loc 2) (.loc 1)) (.cst (.int 1))) .nil) 3 [(2,8)])) (.cons (.ret (.bop .And (.cons (.cmp .Eq (.call (.glb 58) (.cons (.loc 6) .nil)) (.call (.glb 53) (.cons (.loc 8) .nil))) (.cons (.cmp .Eq (.call (.glb 58) (.cons (.loc 7) .nil)) (.loc 10)) .nil)))) .nil)))))))))))
noncomputable def fn43:Fn:=⟨19,[0,1,2],[],b43,false⟩
noncomputable def b44:S:=.cons (.asg (.simple (.loc 1)) (.comp false (.bin false .Mod (.call (.glb 63) (.cons (.loc 1) .nil)) (.cst (.int 1000003))) (.loc 1) (.upto false (.loc 0) (.cst (.int 20))) .nil 3 [])) (.cons (.asg (.simple (.loc 2)) (.lst true (.cons (.loc 1) (.cons (.cst (.int 0)) (.cons (.bin false .Add (.bin false .Mod (.call (.glb 57) (.cons (.loc 1) .nil)) (.cst (.int 9949))) (.cst (.int 81))) .nil))))) (.cons (.asg (.simple (.cel 3)) (.call (.glb 51) (.cons (.call (.glb 50) .nil) .nil))) (.cons (.asg (.simple (.loc 5)) (.comp false (.call (.glb 2) (.cons (.meth (.loc 3) 80 (.cons (.bin false .Add (.cst (.int 2)) (.bin false .Mod (.loc 1) (.cst (.int 3)))) .nil)) .nil)) (.loc 1) (.call (.glb 59) (.cons (.cst (.int 5)) .nil)) .nil 4 [(3,3)])) (.cons (.asg (.simple (.cel 6)) (.dct 2 [.str (.mk #[115,116,97,99,107]),.str (.mk #[97,99,99,101,115,115]),.str (.mk #[112,97,105,114,115]),.str (.mk #[109,111,115,116])] (.cons (.lst false (.cons (.cst (.int 0)) (.cons (.cst (.int 1)) (.cons (.cst (.int 2)) .nil)))) (.cons (.bin true .Mult (.lst false (.cons (.cst (.int 3)) .nil)) (.cst (.int 5))) (.cons (.lst true (.cons (.lst false .nil) (.cons (.lst false .nil) (.cons (.lst false .nil) (.cons (.lst false .nil) (.cons (.lst false .nil) .nil)))))) (.cons (.bin false .Add (.cst (.int 4)) (.call (.glb 28) (.cons (.loc 2) (.cons (.cst (.int 3)) .nil)))) .nil)))))) (.cons (.asg (.simple (.loc 7)) (.call (.glb 48) (.cons (.sub (.loc 5) (.cst (.int 0))) (.cons (.sub (.loc 5) (.cst (.int 1))) (.cons (.sub (.loc 5) (.cst (.int 2))) (.cons (.sub (.loc 6) (.cst (.str (.mk #[109,111,115,116])))) .nil)))))) (.cons (.for (.loc 8) (.call (.glb 59) (.cons (.bin false .Add (.cst (.int 3)) (.call (.glb 28) (.cons (.loc 2) (.cons (.cst (.int 10)) .nil)))) .nil)) (.cons (.ifs (.not (.call (.glb 39) (.cons (.loc 6) (.cons (.loc 7) (.cons (.loc 3) (.cons (.loc 5) (.cons (.call (.glb 28) (.cons (.loc 2) (.cons (.cst (.int 1000003)) .nil))) .nil))))))) (.cons (.ret (.cst (.bool false))) .nil) .nil) .nil)) (.cons (.for (.loc 4) (.call (.glb 59) (.cons (.cst (.int 5)) .nil)) (.cons (.ifs (.not (.call (.glb 42) (.cons (.loc 6) (.cons (.loc 5) (.cons (.loc 4) .nil))))) (.cons (.ret (.cst (.bool false))) .nil) .nil) .nil)) (.cons (.ifs (.bop .Or (.cons (.not (.call (.glb 43) (.cons (.loc 6) (.cons (.loc 7) (.cons (.loc 5) .nil))))) (.cons (.not (.call (.glb 40) (.cons (.loc 6) (.cons (.loc 7) (.cons (.loc 5) .nil))))) .nil))) (.cons (.ret (.cst (.bool false))) .nil) .nil) (.cons (.asg (.tup 2 (.cons (.simple (.loc 9)) (.cons (.simple (.loc 10)) .nil))) (.tup (.cons (.call (.glb 28) (.cons (.loc 2) (.cons (.cst (.int 5)) .nil))) (.cons (.call (.glb 28) (.cons (.loc 2) (.cons (.cst (.int 5)) .nil))) .nil)))) (.cons (.asg (.simple (.loc 11)) (.cmp .Eq (.call (.glb 61) (.cons (.sub (.sub (.loc 6) (.cst (.str (.mk #[112,97,105,114,115])))) (.loc 9)) .nil)) (.call (.glb 61) (.cons (.sub (.sub (.loc 6) (.cst (.str (.mk #[112,97,105,114,115])))) (.loc 10)) .nil)))) (.cons (.ifs (.cmp .NotEq (.call (.glb 23) (.cons (.attr (.sub (.loc 5) (.loc 9)) 2) (.cons (.attr (.sub (.loc 5) (.loc 10)) 2) .nil))) (.loc 11)) (.cons (.ret (.cst (.bool false))) .nil) .nil) (.cons (.ifs (.cmp .NotEq (.call (.glb 58) (.cons (.call (.glb 24) .nil) .nil)) (.lst false (.cons (.cst (.bytes [115,121,115,116,101,109,100,105,99,116])) (.cons (.cst (.bytes [103,108,111,98,97,108,100,105,99,116])) (.cons (.cst (.bytes [115,116,97,116,117,115,100,105,99,116])) (.cons (.cst (.bytes [101,114,114,111,114,100,105,99,116])) (.cons (.cst (.bytes [36,101,114,114,111,114])) .nil))))))) (.cons (.ret (.cst (.bool false))) .nil) .nil) (.cons (.asg (.simple (.loc 12)) (.call (.glb 49) (.cons (.loc 3) (.cons (.cst .none) (.cons (.loc 7) (.cons (.cst .none) (.cons (.call (.glb 50) .nil) (.cons (.dct 3 [] .nil) .nil)))))))) (.cons (.asg (.simple (.loc 13)) (.tup (.cons (.call (.glb 52) (.cons (.sub (.loc 6) (.cst (.str (.mk #[115,116,97,99,107])))) .nil)) (.cons (.call (.glb 57) (.cons (.comp false (.call (.glb 52) (.cons (.sub (.sub (.loc 3) (.cst (.str (.mk #[112,97,105,114,115])))) (.loc 1)) .nil)) (.loc 1) (.sub (.loc 6) (.cst (.str (.mk #[115,116,97,99,107])))) .nil 4 [(3,6)]) .nil)) .nil)))) (.cons (.ret (.cmp .Eq (.call (.glb 64) (.cons (.call (.glb 26) (.cons (.loc 12) .nil)) .nil)) (.loc 13))) .nil)))))))))))))))
noncomputable def fn44:Fn:=⟨32,[0],[],b44,false⟩
noncomputable def b45:S:=.cons (.asg (.attr (.loc 0) 0) (.loc 1)) .nil
noncomputable def fn45:Fn:=⟨2,[0,1],[.none],b45,false⟩
noncomputable def b46:S:=.cons (.asg (.attr (.loc 0) 1) (.loc 1)) (.cons (.asg (.attr (.loc 0) 2) (.loc 2)) (.cons (.asg (.attr (.loc 0) 3) (.loc 3)) (.cons (.asg (.attr (.loc 0) 4) (.loc 4)) .nil)))
noncomputable def fn46:Fn:=⟨5,[0,1,2,3,4],[.bool false,.int 3],b46,false⟩
noncomputable def b47:S:=.cons (.asg (.attr (.loc 0) 5) (.loc 1)) (.cons (.asg (.attr (.loc 0) 6) (.loc 2)) (.cons (.asg (.attr (.loc 0) 7) (.loc 3)) (.cons (.asg (.attr (.loc 0) 8) (.loc 4)) (.cons (.asg (.attr (.loc 0) 4) (.glb 68)) (.cons (.asg (.attr (.loc 0) 9) (.dct 3 [] .nil)) .nil)))))
noncomputable def fn47:Fn:=⟨6,[0,1,2,3,4],[],b47,true⟩
noncomputable def b48:S:=.cons (.ret (.ife (.cmp .In (.loc 1) (.attr (.loc 0) 9)) (.sub (.sub (.attr (.loc 0) 9) (.loc 1)) (.cst (.int 1))) (.cst .none))) .nil
noncomputable def fn48:Fn:=⟨2,[0,1],[],b48,false⟩
noncomputable def b49:S:=.cons (.ret (.comp false (.sub (.attr (.loc 2) 9) (.loc 1)) (.loc 1) (.attr (.loc 0) 9) .nil 3 [(2,0)])) .nil
noncomputable def fn49:Fn:=⟨1,[0],[],b49,false⟩
noncomputable def b50:S:=.cons (.asg (.attr (.loc 0) 6) (.loc 4)) (.cons (.asg (.attr (.loc 0) 18) (.lst true (.cons (.loc 1) (.cons (.loc 2) (.cons (.loc 3) .nil))))) .nil)
noncomputable def fn50:Fn:=⟨5,[0,1,2,3,4],[],b50,true⟩
noncomputable def b51:S:=.cons (.ret (.call (.glb 52) (.cons (.attr (.loc 0) 18) .nil))) .nil
noncomputable def fn51:Fn:=⟨2,[0],[],b51,false⟩
noncomputable def b52:S:=.cons (.ret (.sub (.attr (.loc 0) 18) (.neg (.cst (.int 1))))) .nil
noncomputable def fn52:Fn:=⟨1,[0],[],b52,false⟩
noncomputable def b53:S:=.cons (.ret (.call (.glb 58) (.cons (.attr (.loc 0) 18) .nil))) .nil
noncomputable def fn53:Fn:=⟨2,[0],[],b53,false⟩
noncomputable def b54:S:=.cons (.ret (.cmp .NotEq (.comp false (.loc 1) (.loc 1) (.attr (.loc 0) 18) (.cons (.cmp .Eq (.attr (.attr (.loc 1) 2) 5) (.attr (.loc 2) 5)) .nil) 3 [(2,1)]) (.lst false .nil))) .nil
noncomputable def fn54:Fn:=⟨2,[0,1],[],b54,false⟩
noncomputable def b55:S:=.cons (.expr (.call (.glb 15) (.cons (.loc 1) .nil))) (.cons (.ifs (.cmp .GtE (.call (.glb 52) (.cons (.attr (.loc 0) 18) .nil)) (.attr (.loc 0) 6)) (.cons (.raise (.cst (.bytes [100,105,99,116,115,116,97,99,107,111,118,101,114,102,108,111,119]))) .nil) .nil) (.cons (.expr (.meth (.attr (.loc 0) 18) 15 (.cons (.loc 1) .nil))) .nil))
noncomputable def fn55:Fn:=⟨5,[0,1],[],b55,false⟩
noncomputable def b56:S:=.cons (.ifs (.cmp .LtE (.call (.glb 52) (.cons (.attr (.loc 0) 18) .nil)) (.glb 69)) (.cons (.raise (.cst (.bytes [100,105,99,116,115,116,97,99,107,117,110,100,101,114,102,108,111,119]))) .nil) .nil) (.cons (.ret (.meth (.attr (.loc 0) 18) 19 .nil)) .nil)
noncomputable def fn56:Fn:=⟨4,[0],[],b56,false⟩
noncomputable def b57:S:=.cons (.asg (.attr (.loc 0) 18) (.upto true (.attr (.loc 0) 18) (.glb 69))) .nil
noncomputable def fn57:Fn:=⟨2,[0],[],b57,true⟩
noncomputable def b58:S:=.cons (.for (.loc 2) (.call (.glb 59) (.cons (.bin false .Sub (.call (.glb 52) (.cons (.attr (.loc 0) 18) .nil)) (.cst (.int 1))) (.cons (.neg (.cst (.int 1))) (.cons (.neg (.cst (.int 1))) .nil)))) (.cons (.asg (.simple (.loc 3)) (.attr (.sub (.attr (.loc 0) 18) (.loc 2)) 2)) (.cons (.ifs (.cmp .Lt (.attr (.loc 3) 4) (.glb 67)) (.cons (.raise (.cst (.bytes [105,110,118,97,108,105,100,97,99,99,101,115,115]))) .nil) .nil) (.cons (.ifs (.cmp .In (.loc 1) (.attr (.loc 3) 9)) (.cons (.ret (.tup (.cons (.loc 3) (.cons (.sub (.sub (.attr (.loc 3) 9) (.loc 1)) (.cst (.int 1))) .nil)))) .nil) .nil) .nil)))) (.cons (.ret (.cst .none)) .nil)
noncomputable def fn58:Fn:=⟨8,[0,1],[],b58,false⟩
noncomputable def b59:S:=.cons (.asg (.simple (.loc 2)) (.meth (.loc 0) 20 (.cons (.call (.glb 12) (.cons (.loc 1) .nil)) .nil))) (.cons (.ifs (.cmp .Is (.loc 2) (.cst .none)) (.cons (.raise (.cst (.bytes [117,110,100,101,102,105,110,101,100]))) .nil) .nil) (.cons (.ret (.sub (.loc 2) (.cst (.int 1)))) .nil))
noncomputable def fn59:Fn:=⟨5,[0,1],[],b59,false⟩
noncomputable def b60:S:=.cons (.asg (.simple (.loc 2)) (.meth (.loc 0) 20 (.cons (.call (.glb 12) (.cons (.loc 1) .nil)) .nil))) (.cons (.ifs (.cmp .Is (.loc 2) (.cst .none)) (.cons (.ret (.cst .none)) .nil) .nil) (.cons (.for (.loc 3) (.call (.glb 59) (.cons (.bin false .Sub (.call (.glb 52) (.cons (.attr (.loc 0) 18) .nil)) (.cst (.int 1))) (.cons (.neg (.cst (.int 1))) (.cons (.neg (.cst (.int 1))) .nil)))) (.cons (.ifs (.cmp .Eq (.attr (.attr (.sub (.attr (.loc 0) 18) (.loc 3)) 2) 5) (.attr (.sub (.loc 2) (.cst (.int 0))) 5)) (.cons (.ret (.sub (.attr (.loc 0) 18) (.loc 3))) .nil) .nil) .nil)) (.cons (.ret (.cst .none)) .nil)))
noncomputable def fn60:Fn:=⟨7,[0,1],[],b60,false⟩
noncomputable def b61:S:=.cons (.expr (.call (.glb 16) (.cons (.meth (.loc 0) 21 .nil) .nil))) (.cons (.expr (.meth (.loc 1) 17 (.cons (.attr (.meth (.loc 0) 21 .nil) 2) (.cons (.loc 2) (.cons (.loc 3) .nil))))) .nil)
noncomputable def fn61:Fn:=⟨5,[0,1,2,3],[],b61,false⟩
noncomputable def b62:S:=.cons (.asg (.simple (.loc 4)) (.meth (.loc 0) 22 (.cons (.loc 2) .nil))) (.cons (.ifs (.cmp .Is (.loc 4) (.cst .none)) (.cons (.asg (.simple (.loc 4)) (.meth (.loc 0) 21 .nil)) .nil) .nil) (.cons (.expr (.call (.glb 16) (.cons (.loc 4) .nil))) (.cons (.expr (.meth (.loc 1) 17 (.cons (.attr (.loc 4) 2) (.cons (.loc 2) (.cons (.loc 3) .nil))))) .nil)))
noncomputable def fn62:Fn:=⟨6,[0,1,2,3],[],b62,false⟩
noncomputable def b63:S:=.cons (.asg (.simple (.loc 1)) (.dct 1 [] .nil)) (.cons (.for (.loc 2) (.attr (.loc 0) 18) (.cons (.expr (.call (.glb 15) (.cons (.loc 2) .nil))) (.cons (.for (.loc 3) (.call (.glb 19) (.cons (.attr (.loc 2) 2) .nil)) (.cons (.asg (.sub (.loc 1) (.loc 3)) (.cst (.bool true))) .nil)) .nil))) (.cons (.ret (.call (.glb 53) (.cons (.loc 1) .nil))) .nil))
noncomputable def fn63:Fn:=⟨7,[0],[],b63,false⟩
noncomputable def b64:S:=.cons (.asg (.tup 2 (.cons (.simple (.cel 1)) (.cons (.simple (.loc 2)) .nil))) (.tup (.cons (.dct 1 [] .nil) (.cons (.dct 0 [] .nil) .nil)))) (.cons (.for (.loc 3) (.attr (.loc 0) 18) (.cons (.expr (.call (.glb 15) (.cons (.loc 3) .nil))) (.cons (.ifs (.cmp .NotIn (.attr (.attr (.loc 3) 2) 5) (.loc 2)) (.cons (.asg (.sub (.loc 2) (.attr (.attr (.loc 3) 2) 5)) (.cst (.bool true))) (.cons (.for (.loc 4) (.call (.glb 19) (.cons (.attr (.loc 3) 2) .nil)) (.cons (.asg (.sub (.loc 1) (.loc 4)) (.bin false .Add (.meth (.loc 1) 13 (.cons (.loc 4) (.cons (.cst (.int 0)) .nil))) (.cst (.int 1)))) .nil)) .nil)) .nil) .nil))) (.cons (.ret (.comp false (.loc 1) (.loc 1) (.call (.glb 53) (.cons (.loc 1) .nil)) (.cons (.cmp .Gt (.sub (.loc 2) (.loc 1)) (.cst (.int 1))) .nil) 3 [(2,1)])) .nil))
noncomputable def fn64:Fn:=⟨8,[0],[],b64,false⟩
noncomputable def b65:S:=.cons (.expr (.meth (.loc 0) 25 (.cons (.loc 1) (.cons (.loc 2) (.cons (.loc 3) (.cons (.loc 4) (.cons (.loc 5) (.cons (.loc 6) .nil)))))))) .nil
noncomputable def fn65:Fn:=⟨7,[0,1,2,3,4,5,6],[],b65,true⟩
noncomputable def b66:S:=.cons (.asg (.attr (.loc 0) 26) (.loc 1)) (.cons (.asg (.attr (.loc 0) 27) (.loc 2)) (.cons (.asg (.attr (.loc 0) 24) (.loc 3)) (.cons (.asg (.attr (.loc 0) 28) (.loc 4)) (.cons (.asg (.attr (.loc 0) 16) (.loc 5)) (.cons (.asg (.attr (.loc 0) 29) (.loc 6)) (.cons (.asg (.attr (.loc 0) 30) (.cst .none)) (.cons (.asg (.attr (.loc 0) 31) (.cst .none)) (.cons (.asg (.attr (.loc 0) 32) (.lst false .nil)) (.cons (.asg (.attr (.loc 0) 33) (.dct 3 [] .nil)) (.cons (.asg (.attr (.loc 0) 34) (.cst .none)) (.cons (.asg (.attr (.loc 0) 35) (.cst .none)) (.cons (.asg (.attr (.loc 0) 36) (.cst .none)) (.cons (.asg (.attr (.loc 0) 37) (.cst .none)) (.cons (.asg (.attr (.loc 0) 38) (.cst .none)) (.cons (.asg (.attr (.loc 0) 39) (.cst .none)) (.cons (.asg (.attr (.loc 0) 40) (.cst .none)) (.cons (.asg (.attr (.loc 0) 41) (.cst .none)) (.cons (.asg (.attr (.loc 0) 42) (.cst (.int 0))) (.cons (.asg (.attr (.loc 0) 43) (.glb 70)) (.cons (.asg (.attr (.loc 0) 44) (.cst (.bool false))) (.cons (.asg (.attr (.loc 0) 45) (.cst (.bool false))) (.cons (.asg (.attr (.loc 0) 46) (.cst .none)) (.cons (.asg (.attr (.loc 0) 47) (.cst .none)) (.cons (.asg (.attr (.loc 0) 48) (.cst .none)) (.cons (.asg (.attr (.loc 0) 21) (.cst .none)) .nil)))))))))))))))))))))))))
noncomputable def fn66:Fn:=⟨8,[0,1,2,3,4,5,6],[],b66,true⟩
noncomputable def b67:S:=.cons (.asg (.attr (.loc 0) 27) (.loc 1)) (.cons (.asg (.attr (.loc 0) 24) (.loc 2)) (.cons (.asg (.attr (.loc 0) 32) (.loc 3)) (.cons (.asg (.attr (.loc 0) 49) (.loc 4)) (.cons (.asg (.attr (.loc 0) 50) (.loc 5)) (.cons (.asg (.attr (.loc 0) 51) (.loc 6)) (.cons (.asg (.attr (.loc 0) 52) (.loc 7)) (.cons (.asg (.attr (.loc 0) 9) (.loc 8)) (.cons (.asg (.attr (.loc 0) 53) (.loc 9)) (.cons (.asg (.attr (.loc 0) 54) (.loc 10)) (.cons (.asg (.attr (.loc 0) 55) (.loc 11)) (.cons (.asg (.attr (.loc 0) 30) (.loc 12)) (.cons (.asg (.attr (.loc 0) 34) (.loc 13)) (.cons (.asg (.attr (.loc 0) 56) (.loc 14)) .nil)))))))))))))
noncomputable def fn67:Fn:=⟨15,[0,1,2,3,4,5,6,7,8,9,10,11,12,13,14],[.int 500,.int 20,.int 250,.int 15,.int 31,.int 65535,.int 65535,.int 65535,.int 127,.int 1500,.int 11,.int 15,.int 600,.int 16777216],b67,false⟩
noncomputable def b68:S:=.cons (.asg (.attr (.loc 0) 16) (.loc 1)) (.cons (.asg (.attr (.loc 0) 7) (.cst (.bool false))) (.cons (.asg (.attr (.loc 0) 49) (.lst false .nil)) (.cons (.asg (.attr (.loc 0) 57) (.lst false .nil)) (.cons (.asg (.attr (.loc 0) 58) (.dct 0 [] .nil)) (.cons (.asg (.attr (.loc 0) 59) (.lst false .nil)) (.cons (.asg (.attr (.loc 0) 60) (.cst (.int 0))) (.cons (.asg (.attr (.loc 0) 61) (.cst (.int 0))) (.cons (.asg (.attr (.loc 0) 62) (.cst (.int 0))) (.cons (.asg (.attr (.loc 0) 63) (.cst (.int 0))) .nil)))))))))
noncomputable def fn68:Fn:=⟨2,[0,1],[],b68,true⟩
noncomputable def b69:S:=.cons (.ret (.call (.glb 52) (.cons (.attr (.loc 0) 49) .nil))) .nil
noncomputable def fn69:Fn:=⟨2,[0],[],b69,false⟩
noncomputable def b70:S:=.cons (.ret (.ife (.attr (.loc 0) 7) (.cst (.int 0)) (.attr (.loc 0) 8))) .nil
noncomputable def fn70:Fn:=⟨1,[0],[],b70,false⟩
noncomputable def b71:S:=.cons (.expr (.meth (.loc 0) 64 (.cons (.loc 1) .nil))) (.cons (.asg (.attr (.loc 0) 62) (.bin false .Add (.attr (.loc 0) 62) (.cst (.int 1)))) (.cons (.asg (.sub (.attr (.loc 0) 58) (.attr (.loc 0) 62)) (.tup (.cons (.loc 1) (.cons (.attr (.loc 0) 7) (.cons (.meth (.loc 0) 65 .nil) .nil))))) (.cons (.ifs (.attr (.loc 0) 7) (.cons (.asg (.attr (.loc 0) 61) (.bin false .Add (.attr (.loc 0) 61) (.loc 1))) .nil) (.cons (.asg (.attr (.loc 0) 60) (.bin false .Add (.attr (.loc 0) 60) (.loc 1))) .nil)) (.cons (.ret (.attr (.loc 0) 62)) .nil))))
noncomputable def fn71:Fn:=⟨2,[0,1],[],b71,false⟩
noncomputable def b72:S:=.cons (.ifs (.cmp .Gt (.bin false .Add (.bin false .Add (.attr (.loc 0) 60) (.attr (.loc 0) 61)) (.loc 1)) (.attr (.attr (.loc 0) 16) 56)) (.cons (.raise (.cst (.bytes [86,77,101,114,114,111,114]))) .nil) .nil) .nil
noncomputable def fn72:Fn:=⟨3,[0,1],[],b72,false⟩
noncomputable def b73:S:=.cons (.expr (.call (.glb 27) (.cons (.loc 1) (.cons (.attr (.attr (.loc 0) 16) 9) .nil)))) (.cons (.ret (.call (.glb 47) (.cons (.meth (.loc 0) 66 (.cons (.bin false .Mult (.glb 71) (.loc 1)) .nil)) (.cons (.loc 1) (.cons (.attr (.loc 0) 7) (.cons (.meth (.loc 0) 65 .nil) .nil)))))) .nil)
noncomputable def fn73:Fn:=⟨5,[0,1],[],b73,true⟩
noncomputable def b74:S:=.cons (.ret (.bop .And (.cons (.not (.attr (.loc 1) 7)) (.cons (.cmp .Lt (.attr (.loc 1) 8) (.attr (.loc 0) 8)) .nil)))) .nil
noncomputable def fn74:Fn:=⟨2,[0,1],[],b74,false⟩
noncomputable def b75:S:=.cons (.ifs (.bop .And (.cons (.attr (.loc 1) 7) (.cons (.call (.glb 7) (.cons (.loc 2) .nil)) .nil))) (.cons (.raise (.cst (.bytes [105,110,118,97,108,105,100,97,99,99,101,115,115]))) .nil) .nil) .nil
noncomputable def fn75:Fn:=⟨5,[0,1,2],[],b75,false⟩
noncomputable def b76:S:=.cons (.asg (.simple (.loc 2)) (.call (.glb 55) (.cons (.call (.glb 54) (.cons (.bin false .Mult (.cst (.int 2)) (.attr (.loc 1) 6)) (.cons (.cst (.int 8)) .nil))) (.cons (.attr (.attr (.loc 0) 16) 9) .nil)))) (.cons (.ifs (.cmp .LtE (.loc 2) (.attr (.loc 1) 6)) (.cons (.raise (.cst (.bytes [100,105,99,116,102,117,108,108]))) .nil) .nil) (.cons (.asg (.simple (.loc 3)) (.bin false .Mult (.glb 71) (.bin false .Sub (.loc 2) (.attr (.loc 1) 6)))) (.cons (.expr (.meth (.loc 0) 64 (.cons (.loc 3) .nil))) (.cons (.asg (.simple (.loc 4)) (.ife (.cmp .In (.attr (.loc 1) 5) (.attr (.loc 0) 58)) (.sub (.sub (.attr (.loc 0) 58) (.attr (.loc 1) 5)) (.cst (.int 0))) (.cst (.int 0)))) (.cons (.asg (.sub (.attr (.loc 0) 58) (.attr (.loc 1) 5)) (.tup (.cons (.bin false .Add (.loc 4) (.loc 3)) (.cons (.attr (.loc 1) 7) (.cons (.attr (.loc 1) 8) .nil))))) (.cons (.ifs (.attr (.loc 1) 7) (.cons (.asg (.attr (.loc 0) 61) (.bin false .Add (.attr (.loc 0) 61) (.loc 3))) .nil) (.cons (.asg (.attr (.loc 0) 60) (.bin false .Add (.attr (.loc 0) 60) (.loc 3))) .nil)) (.cons (.ifs (.meth (.loc 0) 67 (.cons (.loc 1) .nil)) (.cons (.expr (.meth (.attr (.loc 0) 57) 15 (.cons (.tup (.cons (.cst (.str (.mk #[109,111,115,116]))) (.cons (.loc 1) (.cons (.attr (.loc 1) 6) .nil)))) .nil))) .nil) .nil) (.cons (.asg (.attr (.loc 1) 6) (.loc 2)) .nil))))))))
noncomputable def fn76:Fn:=⟨9,[0,1],[],b76,false⟩
noncomputable def b77:S:=.cons (.asg (.simple (.loc 4)) (.call (.glb 12) (.cons (.loc 2) .nil))) (.cons (.expr (.meth (.loc 0) 68 (.cons (.loc 1) (.cons (.loc 3) .nil)))) (.cons (.expr (.meth (.loc 0) 68 (.cons (.loc 1) (.cons (.call (.glb 13) (.cons (.loc 2) .nil)) .nil)))) (.cons (.ifs (.bop .And (.cons (.cmp .NotIn (.loc 4) (.attr (.loc 1) 9)) (.cons (.cmp .GtE (.call (.glb 52) (.cons (.attr (.loc 1) 9) .nil)) (.attr (.loc 1) 6)) .nil))) (.cons (.expr (.meth (.loc 0) 69 (.cons (.loc 1) .nil))) .nil) .nil) (.cons (.ifs (.meth (.loc 0) 67 (.cons (.loc 1) .nil)) (.cons (.expr (.meth (.attr (.loc 0) 57) 15 (.cons (.tup (.cons (.cst (.str (.mk #[101,110,116,114,121]))) (.cons (.loc 1) (.cons (.loc 4) (.cons (.meth (.attr (.loc 1) 9) 13 (.cons (.loc 4) .nil)) .nil))))) .nil))) .nil) .nil) (.cons (.asg (.simple (.loc 5)) (.ife (.cmp .In (.loc 4) (.attr (.loc 1) 9)) (.sub (.sub (.attr (.loc 1) 9) (.loc 4)) (.cst (.int 0))) (.call (.glb 13) (.cons (.loc 2) .nil)))) (.cons (.asg (.sub (.attr (.loc 1) 9) (.loc 4)) (.tup (.cons (.loc 5) (.cons (.loc 3) .nil)))) .nil))))))
noncomputable def fn77:Fn:=⟨9,[0,1,2,3],[],b77,false⟩
noncomputable def b78:S:=.cons (.asg (.simple (.loc 3)) (.call (.glb 12) (.cons (.loc 2) .nil))) (.cons (.ifs (.cmp .In (.loc 3) (.attr (.loc 1) 9)) (.cons (.ifs (.meth (.loc 0) 67 (.cons (.loc 1) .nil)) (.cons (.expr (.meth (.attr (.loc 0) 57) 15 (.cons (.tup (.cons (.cst (.str (.mk #[100,114,111,112]))) (.cons (.loc 1) (.cons (.loc 3) (.cons (.sub (.attr (.loc 1) 9) (.loc 3)) (.cons (.call (.glb 58) (.cons (.attr (.loc 1) 9) .nil)) .nil)))))) .nil))) .nil) .nil) (.cons (.expr (.meth (.attr (.loc 1) 9) 19 (.cons (.loc 3) .nil))) .nil)) .nil) .nil)
noncomputable def fn78:Fn:=⟨6,[0,1,2],[],b78,false⟩
noncomputable def b79:S:=.cons (.ifs (.cmp .Gt (.loc 2) (.attr (.loc 1) 4)) (.cons (.raise (.cst (.bytes [105,110,118,97,108,105,100,97,99,99,101,115,115]))) .nil) .nil) (.cons (.ifs (.meth (.loc 0) 67 (.cons (.loc 1) .nil)) (.cons (.expr (.meth (.attr (.loc 0) 57) 15 (.cons (.tup (.cons (.cst (.str (.mk #[97,99,99,101,115,115]))) (.cons (.loc 1) (.cons (.attr (.loc 1) 4) .nil)))) .nil))) .nil) .nil) (.cons (.asg (.attr (.loc 1) 4) (.loc 2)) .nil))
noncomputable def fn79:Fn:=⟨4,[0,1,2],[],b79,false⟩
noncomputable def e0:E:=.meth (.loc 0) 25 (.cons (.loc 1) .nil)
noncomputable def lm0:Lm:=⟨2,[0,1],[],e0⟩
noncomputable def e1:E:=.meth (.loc 0) 70 .nil
noncomputable def lm1:Lm:=⟨2,[0,1],[],e1⟩
noncomputable def e2:E:=.meth (.loc 0) 71 (.cons (.loc 3) (.cons (.loc 1) (.cons (.loc 2) .nil)))
noncomputable def lm2:Lm:=⟨4,[0,1,2],[3],e2⟩
noncomputable def e3:E:=.meth (.loc 0) 72 (.cons (.loc 3) (.cons (.loc 1) (.cons (.loc 2) .nil)))
noncomputable def lm3:Lm:=⟨4,[0,1,2],[3],e3⟩
noncomputable def e4:E:=.call (.glb 21) (.cons (.loc 0) (.cons (.loc 1) (.cons (.loc 2) .nil)))
noncomputable def lm4:Lm:=⟨4,[0,1,2],[],e4⟩
noncomputable def e5:E:=.meth (.loc 0) 20 (.cons (.call (.glb 12) (.cons (.loc 1) .nil)) .nil)
noncomputable def lm5:Lm:=⟨3,[0,1],[],e5⟩
noncomputable def e6:E:=.meth (.loc 0) 22 (.cons (.loc 1) .nil)
noncomputable def lm6:Lm:=⟨2,[0,1],[],e6⟩
noncomputable def e7:E:=.meth (.loc 0) 76 (.cons (.loc 1) .nil)
noncomputable def lm7:Lm:=⟨2,[0,1],[],e7⟩
noncomputable def e8:E:=.call (.glb 25) (.cons (.loc 0) .nil)
noncomputable def lm8:Lm:=⟨3,[0,1],[],e8⟩
noncomputable def e9:E:=.meth (.loc 0) 78 .nil
noncomputable def lm9:Lm:=⟨2,[0,1],[],e9⟩
noncomputable def e10:E:=.meth (.loc 0) 79 .nil
noncomputable def lm10:Lm:=⟨2,[0,1],[],e10⟩
noncomputable def fns:List Fn:=[fn0,fn1,fn2,fn3,fn4,fn5,fn6,fn7,fn8,fn9,fn10,fn11,fn12,fn13,fn14,fn15,fn16,fn17,fn18,fn19,fn20,fn21,fn22,fn23,fn24,fn25,fn26,fn27,fn28,fn29,fn30,fn31,fn32,fn33,fn34,fn35,fn36,fn37,fn38,fn39,fn40,fn41,fn42,fn43,fn44,fn45,fn46,fn47,fn48,fn49,fn50,fn51,fn52,fn53,fn54,fn55,fn56,fn57,fn58,fn59,fn60,fn61,fn62,fn63,fn64,fn65,fn66,fn67,fn68,fn69,fn70,fn71,fn72,fn73,fn74,fn75,fn76,fn77,fn78,fn79]
noncomputable def lms:List Lm:=[lm0,lm1,lm2,lm3,lm4,lm5,lm6,lm7,lm8,lm9,lm10]
noncomputable def Φ (f:Nat):Option Fn:=fns[f]?
noncomputable def Λ (l:Nat):Option Lm:=lms[l]?
abbrev L (n:Nat):AV->List AV->Nat->Store->PostV->PostV->Prop:=callW Φ Λ n
noncomputable def lf (l:Nat) (a:Arguments) (b:Expr) (sc:Scope):Bool:=oSome (Λ l) fun lm=>chkLm lm a b sc
end
section
noncomputable def faL:List Addr:=[187,202,209,216,223,230,237,244,251,258,265,321,328,335,342,349,356,363,370,377,384,391,398,405,535,542,549,1277,1296,1303,1308,1313,1318,1323,1330,1337,1344,1351,1358,1363,1370,1375,1382,1387,1392,36,98,140,147,152,419,426,434,448,453,460,467,474,481,488,495,502,509,516,521,784,791,984,1026,1033,1041,1048,1055,1083,1104,1111,1146,1153,1160,1167]
noncomputable def caL:List Addr:=[52,101,155,524,965,987,1268]
noncomputable def faP (f:Nat):Addr:=faL.getD f 1
noncomputable def caP (c:Nat):Addr:=caL.getD c 1
noncomputable def keepL:List Addr:=[52,101,155,524,965,987,1268,51,100,154,523,964,986,1267,39,38,1169,1170,1085,1086,977,0,1,2,3,4,29,35,36,91,97,98,139,140,146,147,151,152,186,187,195,201,202,208,209,215,216,222,223,229,230,236,237,243,244,250,251,257,258,264,265,320,321,327,328,334,335,341,342,348,349,355,356,362,363,369,370,376,377,383,384,390,391,397,398,404,405,418,419,425,426,427,433,434,447,448,452,453,459,460,466,467,473,474,480,481,487,488,494,495,501,502,508,509,515,516,520,521,534,535,541,542,548,549,783,784,790,791,983,984,1025,1026,1032,1033,1034,1040,1041,1047,1048,1054,1055,1082,1083,1103,1104,1110,1111,1145,1146,1152,1153,1159,1160,1166,1167,1276,1277,1285,1286,1287,1288,1289,1295,1296,1302,1303,1307,1308,1312,1313,1317,1318,1322,1323,1329,1330,1336,1337,1343,1344,1350,1351,1357,1358,1362,1363,1369,1370,1374,1375,1381,1382,1386,1387,1391,1392]
noncomputable def tabL:List Addr:=[1332,1339,1346,1353,1365,1377,1384]
noncomputable def cdoL:List (Addr×Addr×String):=[(1336,1332,"_law_begin_right"),(1343,1339,"_law_end_right"),(1350,1346,"_law_define_right"),(1357,1353,"_law_copy_right"),(1369,1365,"_law_keys_right"),(1381,1377,"_law_body_right"),(1386,1384,"_law_stack_right")]
noncomputable def lname (s:String):Str:=(Str.ofString s ++ (".<locals>.":Str)) ++ ("<lambda>":Str)
noncomputable def cdoP (ns:Names):Option (Addr×Addr×Str):=((lamIdx ns).bind fun i=>cdoL[i]?).map fun x=>(x.1,x.2.1,lname x.2.2)
noncomputable def tabP (a:Addr):Option Str:=(cdoL.find? fun x=>x.2.1==a).map fun x=>lname x.2.2
noncomputable def P0 (w:World) (n0:Nat):Places:=⟨faP,caP,tabP,cdoP,Λ,!w.params.followText "set-order",n0⟩
noncomputable def unfreed (o:Obj):Bool:=o.data.casesOn true n1' n2' n2' n3' n2' n1' n1' n1' n1' false
where
 n1' {α:Type} (_:α):Bool:=true
 n2' {α β:Type} (_:α) (_:β):Bool:=true
 n3' {α β γ:Type} (_:α) (_:β) (_:γ):Bool:=true
noncomputable def qNone (v:Value):Bool:=match v with
 | .none=>true
 | _=>false
noncomputable def qBool (v:Value) (c:Bool->Bool):Bool:=match v with
 | .bool b=>c b
 | _=>false
noncomputable def qInt (v:Value) (c:Int->Bool):Bool:=match v with
 | .int i _=>c i
 | _=>false
noncomputable def qStr (v:Value) (c:Str->Bool):Bool:=match v with
 | .str i _=>c i
 | _=>false
noncomputable def qByt (v:Value) (c:Array UInt8->Bool):Bool:=match v with
 | .bytes i _=>c i
 | _=>false
noncomputable def qRef (v:Value) (c:Addr->Bool):Bool:=match v with
 | .ref a=>c a
 | _=>false
noncomputable def qBlt (v:Value) (c:String->Bool):Bool:=match v with
 | .builtin a=>c a
 | _=>false
noncomputable def qTyp (v:Value) (c:String->Bool):Bool:=match v with
 | .type a=>c a
 | _=>false
noncomputable def dSeq (d:Data) (c:Array Value->Bool):Bool:=match d with
 | .seq i _=>c i
 | _=>false
noncomputable def dDict (d:Data) (c:Array DictEntry->Bool):Bool:=match d with
 | .dict i _=>c i
 | _=>false
noncomputable def dFunc (d:Data) (c:FuncData->Bool):Bool:=match d with
 | .func i=>c i
 | _=>false
noncomputable def dCls (d:Data) (c:ClassData->Bool):Bool:=match d with
 | .cls i=>c i
 | _=>false
noncomputable def dFld (d:Data) (c:Array Value->Bool):Bool:=match d with
 | .fields i=>c i
 | _=>false
noncomputable def dPlain (d:Data):Bool:=match d with
 | .plain=>true
 | _=>false
noncomputable def bStmts (b:FuncBody) (c:List Stmt->Bool):Bool:=match b with
 | .stmts l=>c l
 | _=>false
noncomputable def at_ (K:Frag) (a:Addr) (c:Obj->Bool):Bool:=oSome (K.lookup a) c
noncomputable def qRow (K:Frag) (v:Value) (c:Array Value->Bool):Bool:=qRef v fun a=>at_ K a fun o=>o.cls==.type "tuple"&&o.dict.isNone&&o.slots.toList.isEmpty&&dSeq o.data c
noncomputable def vr0 (a:AV) (v:Value):Bool:=a.casesOn (qNone v) (fun b=>qBool v fun c=>c==b) (fun i=>qInt v fun j=>decide (j=i)) (fun s=>qStr v fun t=>Fast.sEq t s) (fun b=>qByt v fun c=>decide (c.toList=b)) (fun f=>qRef v fun r=>Nat.beq r (faP f)) (fun c=>qRef v fun r=>Nat.beq r (caP c))
 (fun n=>qBlt v fun s=>bnames[n]?==some s) (fun n=>qTyp v fun s=>tnames[n]?==some s) n1 n1 n1 n2 n2 n3 n1
noncomputable def vrL (f:AV->Value->Bool):List AV->List Value->Bool
 | [],l=>lNil l
 | a :: r,l=>lCons l fun v q=>f a v&&vrL f r q
noncomputable def vrC (K:Frag):Nat->AV->Value->Bool
 | 0,a,v=>vr0 a v
 | n+1,a,v=>vr0 a v||a.casesOn false n1 n1 n1 n1 n1 n1 n1 n1 n1 (fun vs=>qRow K v fun items=>vrL (vrC K n) vs items.toList) n1 n2 n2 n3 n1
noncomputable def keyIs (x:Str) (e:DictEntry):Bool:=qStr e.key fun s=>Fast.sEq s x
noncomputable def esOf (K:Frag) (a:Addr):List DictEntry:=(K.lookup a).casesOn [] fun o=>match o.data with
 | .dict es _=>es.toList
 | _=>[]
noncomputable def nsC (K:Frag) (a:Addr):Bool:=at_ K a fun o=>dDict o.data fun es=>es.toList.all fun (e:DictEntry)=>qStr e.key fun uu=>true
noncomputable def getC (K:Frag) (a:Addr) (x:Str):Option Value:=((esOf K a).find? (keyIs x)).map (·.val)
noncomputable def globC (K:Frag):Bool:=(List.range 74).all fun i=>oSome ((getC K mainGlobals (gname i)).casesOn (getC K builtinsNs (gname i)) some) (vrC K 3 (gval i))
noncomputable def sysC (K:Frag):Bool:=K.all (fun p=>unfreed p.2&&!(p.2.cls==.type "frame")&&Nat.blt p.1 1400)&&(nsC K mainGlobals&&(nsC K builtinsNs&&(nsC K cStatics&&((getC K cStatics ("sys.recursionlimit":Str)).isNone&&((K.lookup sysModules).isSome &&
 (oSome (getC K mainGlobals ("__builtins__":Str)) (fun v=>qRef v fun a=>Nat.beq a 4)&&at_ K 4 fun o=>o.cls==.type "module"&&o.dict==some builtinsNs&&dPlain o.data))))))
noncomputable def clsC (K:Frag) (c:Nat):Bool:=plainGet K (caP c) Str.empty&&(hasDictIn K (caP c)&&(findIn K (.ref (caP c)) "__setattr__"==some (some (.builtin "object.__setattr__"))&&plainOver K (caP c)))
noncomputable def ownC (K:Frag) (c x:Nat):Bool:=oSome (findIn K (.ref (caP c)) (nm x)) (noGet K)&&takerIn K (caP c) (nm x)==some none
noncomputable def propC (K:Frag) (c x f:Nat):Bool:=oSome (findIn K (.ref (caP c)) (nm x)) fun v=>oSome v fun v=>qRef v fun p=>specialIn K (.ref p) "__get__"==some (some (.builtin "property.__get__"))&&(takesIn K (.ref p)==some true&&oSome (recIn K p "property") fun l=>lCons l fun v uu=>qRef v fun q=>Nat.beq q (faP f))
noncomputable def metC (K:Frag) (c x f:Nat):Bool:=findIn K (.ref (caP c)) (nm x)==some (some (.ref (faP f)))&&isFn K (.ref (faP f))
noncomputable def makeC (K:Frag) (c g:Nat):Bool:=makesIn K (caP c)&&(findIn K (.ref (caP c)) "__init__"==some (some (.ref (faP g)))&&(typeIn K (.ref (faP g))==some (.type "function")&&keepIn K (.ref (caP c))))
noncomputable def isiC (K:Frag):Bool:=plainGet K (caP 1) "__class__"&&(hasDictIn K (caP 1)&&(findIn K (.ref (caP 1)) "__class__"==some (some (.builtin "object.__class__"))&&(specialIn K (.builtin "object.__class__") "__get__"==some (some (.builtin "getset_descriptor.__get__")) &&
 (takesIn K (.builtin "object.__class__")==some true&&(mroIn K (caP 1) (.type "object")==some true&&(kitOne K (.ref (caP 1)) (.type "bytes")==some false&&(["NoneType","bool","int","str","tuple","list"].all (fun T=>kitOne K (.type T) (.type "bytes")==some false)&&kitOne K (.type "bytes") (.type "bytes")==some true)))))))
noncomputable def slotL (l:List (Option Value)) (c:String->Bool):Bool:=lCons l fun uu l=>lCons l fun uu l=>lCons l fun uu l=>lCons l fun uu l=>lCons l fun v l=>oSome v (fun v=>qBlt v c)&&lOne l fun uu=>true
noncomputable def slotC (o:Obj) (c:String->Bool):Bool:=slotL o.slots.toList c
noncomputable def codeC (K:Frag) (cd:Value) (q:Str):Bool:=qRef cd fun c=>at_ K c fun o=>dFld o.data fun vs=>oSome vs[1]? fun v=>qStr v fun n=>Fast.sEq n q
noncomputable def isName (e:Expr) (x:Str):Bool:=eName e fun y uu=>Fast.sEq y x
noncomputable def lTwo {α:Type} (l:List α) (c:α->α->Bool):Bool:=lCons l fun a r=>lOne r fun b=>c a b
noncomputable def initC (fd:FuncData):Bool:=lTwo fd.params.args (fun a b=>Fast.sEq a.arg "self"&&Fast.sEq b.arg "told")&&(bStmts fd.body (fun l=>lOne l fun s=>sAssign s fun gs e uu=>lOne gs (fun g=>eAttribute g fun o x uu=>isName o "self"&&Fast.sEq x "told")&&isName e "told") &&
 lTwo fd.scope.names fun a b=>(Fast.sEq a.1 "self"&&a.2==.local)&&(Fast.sEq b.1 "told"&&b.2==.local))
noncomputable def dflC (K:Frag) (ds:List AV) (v:Value):Bool:=(qNone v&&lNil ds)||qRow K v fun items=>vrL (vrC K 2) ds items.toList
noncomputable def excC (K:Frag):Bool:=at_ K (caP 0) (fun o=>o.cls==.type "type"&&(slotC o (fun b=>b=="Exception.__new__")&&dCls o.data fun cd=>cd.mro==[.ref 52,.ref 39,.type "Exception",.type "BaseException",.type "object"]&&(cd.hasDict&&!cd.hasDel)))&&(findIn K (.ref (caP 0)) "__init__"==some (some (.ref (faP 45))) &&
 (findIn K (.ref (caP 0)) "__setattr__"==some (some (.builtin "object.__setattr__"))&&(findIn K (.ref (caP 0)) "__getattribute__"==some (some (.builtin "BaseException.__getattribute__"))&&(findIn K (.ref (caP 0)) "__getattr__"==some none&&(findIn K (.ref (caP 0)) "told"==some none &&
 (typeIn K (.ref (faP 45))==some (.type "function")&&(keepIn K (.ref (caP 0))&&at_ K (faP 45) fun o=>dFunc o.data initC)))))))
noncomputable def thingC (K:Frag):Bool:=at_ K (caP 1) fun o=>o.cls==.type "type"&&(slotC o (fun uu=>true)&&dCls o.data fun cd=>cd.mro==[.ref 101,.type "object"]&&(!cd.hasDel&&(nsC K cd.ns&&((getC K cd.ns ("__eq__":Str)).isNone&&(getC K cd.ns ("__ne__":Str)).isNone))))
noncomputable def fnC (K:Frag) (f:Nat):Bool:=at_ K (faP f) fun o=>dFunc o.data fun fd=>oSome (Φ f) fun fn=>bStmts fd.body (fun body=>chkFn lf fn fd.params body fd.scope)&&(Nat.beq fd.globals mainGlobals&&(Nat.beq fd.builtins builtinsNs&&(lNil fd.closure&&(codeC K fd.code fd.qualname&&(dflC K fn.dflts fd.defaults &&
 (cdoP fd.scope.names).casesOn true fun x=>fd.code==.ref x.1&&Fast.sEq ((fd.qualname ++ (".<locals>.":Str)) ++ ("<lambda>":Str)) x.2.2)))))
noncomputable def cdoC (K:Frag) (c t:Addr):Bool:=codeHdIn K c t&&(!Nat.beq t mainGlobals&&(!Nat.beq t 4&&(K.lookup t).isNone))
noncomputable def tabC (T:Frag) (t:Addr):Bool:=at_ T t fun o=>o.cls==.none&&(o.dict.isNone&&(o.slots.toList.isEmpty&&dFld o.data fun vs=>vs.toList.isEmpty))
noncomputable def clsAll (K:Frag):Bool:=(List.range 7).all fun c=>Nat.beq c 0||clsC K c
noncomputable def ownAll (K:Frag):Bool:=(List.range 7).all fun c=>(fieldL.getD c []).all (ownC K c)
noncomputable def pairAll (l:List (List (Nat×Nat))) (c:Nat->Nat->Nat->Bool):Bool:=(List.range 7).all fun i=>(l.getD i []).all fun p=>c i p.1 p.2
noncomputable def makeAll (K:Frag):Bool:=(List.range 7).all fun c=>(initOf c).casesOn true (makeC K c)
noncomputable def fnAll (K:Frag):Bool:=(List.range 80).all (fnC K)
noncomputable def cdoAll (K T:Frag):Bool:=cdoL.all (fun x=>cdoC K x.1 x.2.1)&&tabL.all (tabC T)
noncomputable def chkB (K T:Frag):Bool:=sysC K&&(globC K&&(clsAll K&&(ownAll K&&(pairAll methL (metC K)&&(pairAll propL (propC K)&&(makeAll K&&(isiC K&&(excC K&&(thingC K&&(fnAll K&&cdoAll K T))))))))))
noncomputable def Kof (t:BT) (as:List Addr):Frag:=as.filterMap fun a=>(t.get a).map fun o=>(a,o)
noncomputable def lookT (s:SharedT):Bool:=(Kof s.tree keepL).all (fun p=>unfreed p.2&&Nat.blt p.1 s.n)&&((Kof s.tree tabL).all (fun p=>unfreed p.2&&Nat.blt p.1 s.n)&&chkB (Kof s.tree keepL) (Kof s.tree tabL))
end
section
noncomputable def prog:Program:=PySem.Challenge.rw_pb0520_01.row.prog
noncomputable def vw:Program:=view prog [93]
noncomputable def loose:List Str:=prog.boundNames.filter fun x=>x != ("law":Str)
noncomputable def insL:List Obj->Nat->BT->BT
 | [],_,t=>t
 | o :: os,n,t=>insL os (n+1) (t.ins n o)
noncomputable def runT (n₀:Nat) (ann:Option Value) (p:Program) (w:World):Nat->SharedT->Thread->Option SharedT
 | 0,_,_=>none
 | n+1,s,t=>match through t with
  | true=>some s
  | false=>match PySem.W.Fast.tw6613529449190102663 n₀ ann t with
   | false=>none
   | true=>match PySem.W.Fast.tw10156331382660048174 (PySem.W.Fast.tw11892475500146522536 PySem.W.Fast.tw14364793385576792824) p w s t with
    | some (s',t')=>runT n₀ ann p w n s' t'
    | none=>none
noncomputable def t0 (P:Params):BT:=insL (boot_heap P).objs.toList 0 .nil
noncomputable def m0 (P:Params):Nat:=(boot_heap P).objs.size
noncomputable def s0 (P:Params) (os:OsState):SharedT:=⟨t0 P,m0 P,(boot_heap P).life,#[],boot_drawn,boot_toks,os⟩
noncomputable def run (w:World) (os:OsState):Option SharedT:=runT (m0 w.params) ((boot_heap w.params).nsMap mainGlobals "__annotations__") prog w 20000 (s0 w.params os) (topStub prog)
noncomputable def gl (P:Params) (s:SharedT):Bool:=staticsOk (importedModules prog.main.body) (boot_heap P) s.abs.heap&&namesBound prog s.abs.heap&&gensDone s.abs&&laidKept (boot_heap P) s.abs.heap
noncomputable def sn (s:SharedT):=PySem.W.Fast.tw4187177175401517315 vw loose (importedModules prog.main.body) (fun s=>recOk [] s) true s.abs
theorem looked:∀ (w:World) (os:OsState),(run w os).map (fun s=>(gl w.params s,sn s,lookT s))=some (true,openGood vw loose,true):=fun w os=>by kernel_rfl
end
section
abbrev row0:OpenRow:=PySem.Challenge.rw_pb0520_01.row
theorem law_isd:(defOf vw row0.name).isSome=true:=by kernel_rfl
noncomputable def lawD:DefRec×List (Str×Expr):=(defOf vw row0.name).get law_isd
theorem law_def:defOf vw row0.name=some (lawD.1,lawD.2):=(Option.some_get law_isd).symm
theorem law_the:prog.theDef row0.name=some (lawD.1.params,lawD.1.body,lawD.1.scope):=by kernel_rfl
theorem law_kw:kwWritten? lawD.1.params.kwonlyargs lawD.1.params.kw_defaults=some lawD.2:=by kernel_rfl
theorem law_rec:row0.records=[]:=by kernel_rfl
theorem law_wr:(!row0.writes||row0.records.isEmpty)=true:=by kernel_rfl
theorem law_ok:(chainsOk vw&&opensWell row0.prog&&(PySem.W.frees row0.toRowW&&row0.within.isEmpty))=true:=by kernel_rfl
theorem law_said:PySem.Challenge.rw_pb0520_01.wellSaid=true:=(congrFun Fast.te9446332074065402090 _).trans (by kernel_rfl)
theorem law_bare:row0.prog.bare:=⟨by kernel_rfl,by kernel_rfl,by kernel_rfl,by kernel_rfl,by kernel_rfl,by kernel_rfl⟩
end
section
theorem ff {C:Prop} (h:false=true):C:=nomatch h
theorem fz0 {C:Prop} (h:false=true):C:=ff h
theorem fz1 {α0:Type} {C:α0->Prop} (a0:α0) (h:false=true):C a0:=ff h
theorem fz2 {α0 α1:Type} {C:α0->α1->Prop} (a0:α0) (a1:α1) (h:false=true):C a0 a1:=ff h
theorem fz3 {α0 α1 α2:Type} {C:α0->α1->α2->Prop} (a0:α0) (a1:α1) (a2:α2) (h:false=true):C a0 a1 a2:=ff h
theorem fz4 {α0 α1 α2 α3:Type} {C:α0->α1->α2->α3->Prop} (a0:α0) (a1:α1) (a2:α2) (a3:α3) (h:false=true):C a0 a1 a2 a3:=ff h
theorem fz5 {α0 α1 α2 α3 α4:Type} {C:α0->α1->α2->α3->α4->Prop} (a0:α0) (a1:α1) (a2:α2) (a3:α3) (a4:α4) (h:false=true):C a0 a1 a2 a3 a4:=ff h
theorem fz7 {α0 α1 α2 α3 α4 α5 α6:Type} {C:α0->α1->α2->α3->α4->α5->α6->Prop} (a0:α0) (a1:α1) (a2:α2) (a3:α3) (a4:α4) (a5:α5) (a6:α6) (h:false=true):C a0 a1 a2 a3 a4 a5 a6:=ff h
theorem fz10 {α0 α1 α2 α3 α4 α5 α6 α7 α8 α9:Type} {C:α0->α1->α2->α3->α4->α5->α6->α7->α8->α9->Prop} (a0:α0) (a1:α1) (a2:α2) (a3:α3) (a4:α4) (a5:α5) (a6:α6) (a7:α7) (a8:α8) (a9:α9) (h:false=true):C a0 a1 a2 a3 a4 a5 a6 a7 a8 a9:=ff h
theorem fz11 {α0 α1 α2 α3 α4 α5 α6 α7 α8 α9 α10:Type} {C:α0->α1->α2->α3->α4->α5->α6->α7->α8->α9->α10->Prop} (a0:α0) (a1:α1) (a2:α2) (a3:α3) (a4:α4) (a5:α5) (a6:α6) (a7:α7) (a8:α8) (a9:α9) (a10:α10) (h:false=true):C a0 a1 a2 a3 a4 a5 a6 a7 a8 a9 a10:=ff h
theorem fy0 {C:Prop} (h:False):C:=h.elim
theorem fy1 {α0:Type} {C:α0->Prop} (a0:α0) (h:False):C a0:=h.elim
theorem fy2 {α0 α1:Type} {C:α0->α1->Prop} (a0:α0) (a1:α1) (h:False):C a0 a1:=h.elim
theorem fy3 {α0 α1 α2:Type} {C:α0->α1->α2->Prop} (a0:α0) (a1:α1) (a2:α2) (h:False):C a0 a1 a2:=h.elim
theorem fy4 {α0 α1 α2 α3:Type} {C:α0->α1->α2->α3->Prop} (a0:α0) (a1:α1) (a2:α2) (a3:α3) (h:False):C a0 a1 a2 a3:=h.elim
theorem fy5 {α0 α1 α2 α3 α4:Type} {C:α0->α1->α2->α3->α4->Prop} (a0:α0) (a1:α1) (a2:α2) (a3:α3) (a4:α4) (h:False):C a0 a1 a2 a3 a4:=h.elim
theorem fy7 {α0 α1 α2 α3 α4 α5 α6:Type} {C:α0->α1->α2->α3->α4->α5->α6->Prop} (a0:α0) (a1:α1) (a2:α2) (a3:α3) (a4:α4) (a5:α5) (a6:α6) (h:False):C a0 a1 a2 a3 a4 a5 a6:=h.elim
theorem fy10 {α0 α1 α2 α3 α4 α5 α6 α7 α8 α9:Type} {C:α0->α1->α2->α3->α4->α5->α6->α7->α8->α9->Prop} (a0:α0) (a1:α1) (a2:α2) (a3:α3) (a4:α4) (a5:α5) (a6:α6) (a7:α7) (a8:α8) (a9:α9) (h:False):C a0 a1 a2 a3 a4 a5 a6 a7 a8 a9:=h.elim
theorem fy11 {α0 α1 α2 α3 α4 α5 α6 α7 α8 α9 α10:Type} {C:α0->α1->α2->α3->α4->α5->α6->α7->α8->α9->α10->Prop} (a0:α0) (a1:α1) (a2:α2) (a3:α3) (a4:α4) (a5:α5) (a6:α6) (a7:α7) (a8:α8) (a9:α9) (a10:α10) (h:False):C a0 a1 a2 a3 a4 a5 a6 a7 a8 a9 a10:=h.elim
theorem nn {α:Type} {x:α} {C:Prop} (h:none=some x):C:=nomatch h
theorem beqd {α:Type} [BEq α] [LawfulBEq α] [DecidableEq α] (a b:α):(a==b)=decide (a=b):=Bool.eq_iff_iff.mpr (beq_iff_eq.trans decide_eq_true_iff.symm)
theorem band {a b:Bool} {C:Prop} (h:(a&&b)=true) (f:a=true->b=true->C):C:=f (Bool.and_eq_true_iff.mp h).1 (Bool.and_eq_true_iff.mp h).2
theorem bnot {a:Bool} (h:(!a)=true):a=false:=by cases a <;> first | rfl | exact ff h
theorem only {b:Bool} {P C:Prop} (h:cond b P False) (f:b=true->P->C):C:=by cases b <;> first | exact h.elim | exact f rfl h
theorem onlyN {b:Bool} {P C:Prop} (h:cond b False P) (f:b=false->P->C):C:=by cases b <;> first | exact h.elim | exact f rfl h
theorem either {b:Bool} {P Q C:Prop} (h:cond b P Q) (f:b=true->P->C) (g:b=false->Q->C):C:=by cases b <;> first | exact g rfl h | exact f rfl h
theorem okE {α:Type} {o:Option α} {c:α->Prop} {C:Prop} (h:okO o c) (f:∀ x,o=some x->c x->C):C:=by cases o <;> first | exact h.elim | exact f _ rfl h
theorem bindE {α β:Type} {o:Option α} {f:α->Option β} {y:β} {C:Prop} (h:o.bind f=some y) (k:∀ x,o=some x->f x=some y->C):C:=by cases o with
 | none=>exact nomatch (h:none=some y)
 | some x=>exact k x rfl h
theorem mapE {α β:Type} {o:Option α} {f:α->β} {y:β} {C:Prop} (h:o.map f=some y) (k:∀ x,o=some x->f x=y->C):C:=by cases o with
 | none=>exact nomatch (h:none=some y)
 | some x=>exact k x rfl (oJ h)
theorem condE {α:Type} {b:Bool} {x:α} {y:α} {C:Prop} (h:cond b (some x) none=some y) (k:b=true->x=y->C):C:=by cases b with
 | false=>exact nomatch (h:none=some y)
 | true=>exact k rfl (oJ h)
theorem condOr {α:Type} {b:Bool} {x y:α} {o:Option α} {C:Prop} (h:cond b (some x) o=some y) (f:b=true->x=y->C) (g:o=some y->C):C:=by cases b with
 | false=>exact g h
 | true=>exact f rfl (oJ h)
theorem consE {α:Type} {l:List α} {c:α->List α->Prop} {C:List α->Prop} (h:consP l c) (f:∀ x r,c x r->C (x :: r)):C l:=by cases l <;> first | exact h.elim | exact f _ _ h
theorem nilE {α:Type} {l:List α} {c:Prop} {C:List α->Prop} (h:nilP l c) (f:c->C []):C l:=by cases l <;> first | exact h.elim | exact f h
theorem oneE {α:Type} {l:List α} {c:α->Prop} {C:List α->Prop} (h:oneP l c) (f:∀ x,c x->C [x]):C l:=consE h fun x r (h:nilP r (c x))=>nilE (C:=fun r=>C (x :: r)) h (f x)
theorem twoE {α:Type} {l:List α} {c:α->α->Prop} {C:List α->Prop} (h:twoP l c) (f:∀ x y,c x y->C [x,y]):C l:=consE h fun x r (h:oneP r (c x))=>oneE (C:=fun r=>C (x :: r)) h (f x)
theorem small_lt {i:Int} (h:smallB i=true):i.natAbs < 2 ^ 60:=nC h
theorem few_lt {α:Type} {l:List α} (h:Nat.blt l.length 1000=true):l.length < 1000:=nC h
theorem smallE {i:Int} {P C:Prop} (h:smallC i P) (f:i.natAbs < 2 ^ 60->P->C):C:=only h fun e=>f (small_lt e)
theorem fewE {α:Type} {l:List α} {P C:Prop} (h:few l P) (f:l.length < 1000->P->C):C:=only h fun e=>f (few_lt e)
section
variable {a:AV} {C:AV->Prop}
theorem noneA {c:Prop} (h:asNone a c) (f:c->C .none):C a:=@AV.casesOn (fun a=>asNone a c->C a) a f fy1 fy1 fy1 fy1 fy1 fy1 fy1 fy1 fy1 fy1 fy1 fy2 fy2 fy3 fy1 h
theorem boolA {c:Bool->Prop} (h:asBool a c) (f:∀ i,c i->C (.bool i)):C a:=@AV.casesOn (fun a=>asBool a c->C a) a fy0 f fy1 fy1 fy1 fy1 fy1 fy1 fy1 fy1 fy1 fy1 fy2 fy2 fy3 fy1 h
theorem intA {c:Int->Prop} (h:asInt a c) (f:∀ i,c i->C (.int i)):C a:=@AV.casesOn (fun a=>asInt a c->C a) a fy0 fy1 f fy1 fy1 fy1 fy1 fy1 fy1 fy1 fy1 fy1 fy2 fy2 fy3 fy1 h
theorem bytesA {c:List UInt8->Prop} (h:asBytes a c) (f:∀ i,c i->C (.bytes i)):C a:=@AV.casesOn (fun a=>asBytes a c->C a) a fy0 fy1 fy1 fy1 f fy1 fy1 fy1 fy1 fy1 fy1 fy1 fy2 fy2 fy3 fy1 h
theorem typA {c:Nat->Prop} (h:asTyp a c) (f:∀ i,c i->C (.typ i)):C a:=@AV.casesOn (fun a=>asTyp a c->C a) a fy0 fy1 fy1 fy1 fy1 fy1 fy1 fy1 f fy1 fy1 fy1 fy2 fy2 fy3 fy1 h
theorem cellA {c:Nat->Prop} (h:asCell a c) (f:∀ i,c i->C (.cell i)):C a:=@AV.casesOn (fun a=>asCell a c->C a) a fy0 fy1 fy1 fy1 fy1 fy1 fy1 fy1 fy1 f fy1 fy1 fy2 fy2 fy3 fy1 h
theorem tupA {c:List AV->Prop} (h:asTup a c) (f:∀ i,c i->C (.tup i)):C a:=@AV.casesOn (fun a=>asTup a c->C a) a fy0 fy1 fy1 fy1 fy1 fy1 fy1 fy1 fy1 fy1 f fy1 fy2 fy2 fy3 fy1 h
theorem lstA {c:List AV->Prop} (h:asLst a c) (f:∀ i,c i->C (.lst i)):C a:=@AV.casesOn (fun a=>asLst a c->C a) a fy0 fy1 fy1 fy1 fy1 fy1 fy1 fy1 fy1 fy1 fy1 f fy2 fy2 fy3 fy1 h
theorem setA {c:List Int->Prop} (h:asSet a c) (f:∀ i,c i->C (.set i)):C a:=@AV.casesOn (fun a=>asSet a c->C a) a fy0 fy1 fy1 fy1 fy1 fy1 fy1 fy1 fy1 fy1 fy1 fy1 fy2 fy2 fy3 f h
theorem rngA {c:Int->Int->Int->Prop} (h:asRng a c) (f:∀ x y z,c x y z->C (.rng x y z)):C a:=@AV.casesOn (fun a=>asRng a c->C a) a fy0 fy1 fy1 fy1 fy1 fy1 fy1 fy1 fy1 fy1 fy1 fy1 fy2 fy2 f fy1 h
theorem instA {c:Nat->List (Nat×AV)->Prop} (h:asInst a c) (f:∀ i fs,c i fs->C (.inst i fs)):C a:=@AV.casesOn (fun a=>asInst a c->C a) a fy0 fy1 fy1 fy1 fy1 fy1 fy1 fy1 fy1 fy1 fy1 fy1 f fy2 fy3 fy1 h
end
theorem cellE {σ:Store} {i:Nat} {fL:List AV->Prop} {fD:Nat->List (AV×AV)->Nat->Prop} {fI:Nat->List (Nat×AV)->Prop} {C:Prop} (h:onCell σ i fL fD fI) (l:∀ vs,σ i=some (.list vs)->fL vs->C) (d:∀ kd es ep,σ i=some (.dict kd es ep)->fD kd es ep->C) (n:∀ c fs,σ i=some (.inst c fs)->fI c fs->C):C:=by
 unfold onCell at h
 generalize σ i=o at *
 cases o with
 | none=>exact h.elim
 | some c=>cases c <;> first | exact l _ rfl h | exact d _ _ _ rfl h | exact n _ _ rfl h
theorem seqE {σ:Store} {a:AV} {fR:List AV->Prop} {fD:Nat->List (AV×AV)->Nat->Prop} {C:AV->Prop} (h:onSeq σ a fR fD) (t:∀ vs,fR vs->C (.tup vs)) (l:∀ vs,fR vs->C (.lst vs)) (c:∀ i vs,σ i=some (.list vs)->fR vs->C (.cell i)) (d:∀ i kd es ep,σ i=some (.dict kd es ep)->fD kd es ep->C (.cell i)):C a:=by
 cases a <;> first | exact t _ h | exact l _ h | exact h.elim | exact cellE h (c _) (d _) fun uu uu uu h=>h.elim
theorem rowE {σ:Store} {a:AV} {fR:List AV->Prop} {C:AV->Prop} (h:onRow σ a fR) (l:∀ vs,fR vs->C (.lst vs)) (c:∀ i vs,σ i=some (.list vs)->fR vs->C (.cell i)):C a:=by
 cases a <;> first | exact l _ h | exact h.elim | exact cellE h (c _) (fun uu uu uu uu h=>h.elim) fun uu uu uu h=>h.elim
section
variable {P:Places} {g:Heap} {ρ:Rho} {a b:AV} {v u:Value}
theorem vNone {c:Prop} {C:Value->Prop} (h:asNone a c) (hv:VR P g ρ a v) (f:c->C .none):C v :=
 noneA (C:=fun a=>VR P g ρ a v->C v) h (fun h e=>Eq.ndrec (motive:=C) (f h) (Eq.symm e)) hv
theorem vBool {c:Bool->Prop} {C:Value->Prop} (h:asBool a c) (hv:VR P g ρ a v) (f:∀ b,c b->C (.bool b)):C v :=
 boolA (C:=fun a=>VR P g ρ a v->C v) h (fun b h e=>Eq.ndrec (motive:=C) (f b h) (Eq.symm e)) hv
theorem vInt {c:Int->Prop} {C:Value->Prop} (h:asInt a c) (hv:VR P g ρ a v) (f:∀ i t,c i->C (.int i t)):C v :=
 intA (C:=fun a=>VR P g ρ a v->C v) h (fun i h e=>Exists.elim e fun t e=>Eq.ndrec (motive:=C) (f i t h) (Eq.symm e)) hv
theorem vInt2 {c:Int->Int->Prop} {C:Value->Value->Prop} (h:int2 a b c) (hv:VR P g ρ a v) (hu:VR P g ρ b u) (f:∀ i t j s,c i j->C (.int i t) (.int j s)):C v u :=
 vInt (C:=fun v=>C v u) h hv fun i t h=>vInt h hu (f i t)
theorem vBytes {c:List UInt8->Prop} {C:Value->Prop} (h:asBytes a c) (hv:VR P g ρ a v) (f:∀ i t,c i->C (.bytes i.toArray t)):C v :=
 bytesA (C:=fun a=>VR P g ρ a v->C v) h (fun i h e=>Exists.elim e fun t e=>Eq.ndrec (motive:=C) (f i t h) (Eq.symm e)) hv
end
theorem eBoolOp_e {e:Expr} {c} {C:Expr->Prop} (h:eBoolOp e c=true) (f:∀ op es p,c op es p=true->C (.BoolOp op es p)):C e:=@PySem.Expr.casesOn (fun e=>eBoolOp e c=true->C e) e f fz3 fz4 fz3 fz4 fz4 fz3 fz3 fz4 fz4 fz5 fz4 fz2 fz2 fz2 fz4 fz4 fz4 fz2 fz3 fz3 fz3 fz2 fz2 fz2 fz3 fz4 h
theorem eBinOp_e {e:Expr} {c} {C:Expr->Prop} (h:eBinOp e c=true) (f:∀ a o b p,c a o b p=true->C (.BinOp a o b p)):C e:=@PySem.Expr.casesOn (fun e=>eBinOp e c=true->C e) e fz3 fz3 f fz3 fz4 fz4 fz3 fz3 fz4 fz4 fz5 fz4 fz2 fz2 fz2 fz4 fz4 fz4 fz2 fz3 fz3 fz3 fz2 fz2 fz2 fz3 fz4 h
theorem eUnaryOp_e {e:Expr} {c} {C:Expr->Prop} (h:eUnaryOp e c=true) (f:∀ o a p,c o a p=true->C (.UnaryOp o a p)):C e:=@PySem.Expr.casesOn (fun e=>eUnaryOp e c=true->C e) e fz3 fz3 fz4 f fz4 fz4 fz3 fz3 fz4 fz4 fz5 fz4 fz2 fz2 fz2 fz4 fz4 fz4 fz2 fz3 fz3 fz3 fz2 fz2 fz2 fz3 fz4 h
theorem eLambda_e {e:Expr} {c} {C:Expr->Prop} (h:eLambda e c=true) (f:∀ a b sc p,c a b sc p=true->C (.Lambda a b sc p)):C e:=@PySem.Expr.casesOn (fun e=>eLambda e c=true->C e) e fz3 fz3 fz4 fz3 f fz4 fz3 fz3 fz4 fz4 fz5 fz4 fz2 fz2 fz2 fz4 fz4 fz4 fz2 fz3 fz3 fz3 fz2 fz2 fz2 fz3 fz4 h
theorem eIfExp_e {e:Expr} {c} {C:Expr->Prop} (h:eIfExp e c=true) (f:∀ t a b p,c t a b p=true->C (.IfExp t a b p)):C e:=@PySem.Expr.casesOn (fun e=>eIfExp e c=true->C e) e fz3 fz3 fz4 fz3 fz4 f fz3 fz3 fz4 fz4 fz5 fz4 fz2 fz2 fz2 fz4 fz4 fz4 fz2 fz3 fz3 fz3 fz2 fz2 fz2 fz3 fz4 h
theorem eDict_e {e:Expr} {c} {C:Expr->Prop} (h:eDict e c=true) (f:∀ ks vs p,c ks vs p=true->C (.Dict ks vs p)):C e:=@PySem.Expr.casesOn (fun e=>eDict e c=true->C e) e fz3 fz3 fz4 fz3 fz4 fz4 f fz3 fz4 fz4 fz5 fz4 fz2 fz2 fz2 fz4 fz4 fz4 fz2 fz3 fz3 fz3 fz2 fz2 fz2 fz3 fz4 h
theorem eListComp_e {e:Expr} {c} {C:Expr->Prop} (h:eListComp e c=true) (f:∀ e gs sc p,c e gs sc p=true->C (.ListComp e gs sc p)):C e:=@PySem.Expr.casesOn (fun e=>eListComp e c=true->C e) e fz3 fz3 fz4 fz3 fz4 fz4 fz3 fz3 f fz4 fz5 fz4 fz2 fz2 fz2 fz4 fz4 fz4 fz2 fz3 fz3 fz3 fz2 fz2 fz2 fz3 fz4 h
theorem eCompare_e {e:Expr} {c} {C:Expr->Prop} (h:eCompare e c=true) (f:∀ a os bs p,c a os bs p=true->C (.Compare a os bs p)):C e:=@PySem.Expr.casesOn (fun e=>eCompare e c=true->C e) e fz3 fz3 fz4 fz3 fz4 fz4 fz3 fz3 fz4 fz4 fz5 fz4 fz2 fz2 fz2 f fz4 fz4 fz2 fz3 fz3 fz3 fz2 fz2 fz2 fz3 fz4 h
theorem eCall_e {e:Expr} {c} {C:Expr->Prop} (h:eCall e c=true) (f:∀ f as kw p,c f as kw p=true->C (.Call f as kw p)):C e:=@PySem.Expr.casesOn (fun e=>eCall e c=true->C e) e fz3 fz3 fz4 fz3 fz4 fz4 fz3 fz3 fz4 fz4 fz5 fz4 fz2 fz2 fz2 fz4 f fz4 fz2 fz3 fz3 fz3 fz2 fz2 fz2 fz3 fz4 h
theorem eConstant_e {e:Expr} {c} {C:Expr->Prop} (h:eConstant e c=true) (f:∀ d k p,c d k p=true->C (.Constant d k p)):C e:=@PySem.Expr.casesOn (fun e=>eConstant e c=true->C e) e fz3 fz3 fz4 fz3 fz4 fz4 fz3 fz3 fz4 fz4 fz5 fz4 fz2 fz2 fz2 fz4 fz4 fz4 fz2 f fz3 fz3 fz2 fz2 fz2 fz3 fz4 h
theorem eAttribute_e {e:Expr} {c} {C:Expr->Prop} (h:eAttribute e c=true) (f:∀ a y p,c a y p=true->C (.Attribute a y p)):C e:=@PySem.Expr.casesOn (fun e=>eAttribute e c=true->C e) e fz3 fz3 fz4 fz3 fz4 fz4 fz3 fz3 fz4 fz4 fz5 fz4 fz2 fz2 fz2 fz4 fz4 fz4 fz2 fz3 f fz3 fz2 fz2 fz2 fz3 fz4 h
theorem eSubscript_e {e:Expr} {c} {C:Expr->Prop} (h:eSubscript e c=true) (f:∀ a i p,c a i p=true->C (.Subscript a i p)):C e:=@PySem.Expr.casesOn (fun e=>eSubscript e c=true->C e) e fz3 fz3 fz4 fz3 fz4 fz4 fz3 fz3 fz4 fz4 fz5 fz4 fz2 fz2 fz2 fz4 fz4 fz4 fz2 fz3 fz3 f fz2 fz2 fz2 fz3 fz4 h
theorem eName_e {e:Expr} {c} {C:Expr->Prop} (h:eName e c=true) (f:∀ x p,c x p=true->C (.Name x p)):C e:=@PySem.Expr.casesOn (fun e=>eName e c=true->C e) e fz3 fz3 fz4 fz3 fz4 fz4 fz3 fz3 fz4 fz4 fz5 fz4 fz2 fz2 fz2 fz4 fz4 fz4 fz2 fz3 fz3 fz3 fz2 f fz2 fz3 fz4 h
theorem eList_e {e:Expr} {c} {C:Expr->Prop} (h:eList e c=true) (f:∀ es p,c es p=true->C (.List es p)):C e:=@PySem.Expr.casesOn (fun e=>eList e c=true->C e) e fz3 fz3 fz4 fz3 fz4 fz4 fz3 fz3 fz4 fz4 fz5 fz4 fz2 fz2 fz2 fz4 fz4 fz4 fz2 fz3 fz3 fz3 fz2 fz2 f fz3 fz4 h
theorem eTuple_e {e:Expr} {c} {C:Expr->Prop} (h:eTuple e c=true) (f:∀ es k p,c es k p=true->C (.Tuple es k p)):C e:=@PySem.Expr.casesOn (fun e=>eTuple e c=true->C e) e fz3 fz3 fz4 fz3 fz4 fz4 fz3 fz3 fz4 fz4 fz5 fz4 fz2 fz2 fz2 fz4 fz4 fz4 fz2 fz3 fz3 fz3 fz2 fz2 fz2 f fz4 h
theorem eSlice_e {e:Expr} {c} {C:Expr->Prop} (h:eSlice e c=true) (f:∀ l h t p,c l h t p=true->C (.Slice l h t p)):C e:=@PySem.Expr.casesOn (fun e=>eSlice e c=true->C e) e fz3 fz3 fz4 fz3 fz4 fz4 fz3 fz3 fz4 fz4 fz5 fz4 fz2 fz2 fz2 fz4 fz4 fz4 fz2 fz3 fz3 fz3 fz2 fz2 fz2 fz3 f h
theorem sReturn_e {s:Stmt} {c} {C:Stmt->Prop} (h:sReturn s c=true) (f:∀ r p,c r p=true->C (.Return r p)):C s:=@PySem.Stmt.casesOn (fun s=>sReturn s c=true->C s) s fz10 fz10 fz11 f fz2 fz3 fz7 fz4 fz5 fz5 fz5 fz4 fz4 fz3 fz3 fz3 fz3 fz5 fz5 fz3 fz2 fz4 fz2 fz2 fz2 fz1 fz1 fz1 h
theorem sAssign_e {s:Stmt} {c} {C:Stmt->Prop} (h:sAssign s c=true) (f:∀ gs e p,c gs e p=true->C (.Assign gs e p)):C s:=@PySem.Stmt.casesOn (fun s=>sAssign s c=true->C s) s fz10 fz10 fz11 fz2 fz2 f fz7 fz4 fz5 fz5 fz5 fz4 fz4 fz3 fz3 fz3 fz3 fz5 fz5 fz3 fz2 fz4 fz2 fz2 fz2 fz1 fz1 fz1 h
theorem sAugAssign_e {s:Stmt} {c} {C:Stmt->Prop} (h:sAugAssign s c=true) (f:∀ t o e p,c t o e p=true->C (.AugAssign t o e p)):C s:=@PySem.Stmt.casesOn (fun s=>sAugAssign s c=true->C s) s fz10 fz10 fz11 fz2 fz2 fz3 fz7 f fz5 fz5 fz5 fz4 fz4 fz3 fz3 fz3 fz3 fz5 fz5 fz3 fz2 fz4 fz2 fz2 fz2 fz1 fz1 fz1 h
theorem sFor_e {s:Stmt} {c} {C:Stmt->Prop} (h:sFor s c=true) (f:∀ t i b o p,c t i b o p=true->C (.For t i b o p)):C s:=@PySem.Stmt.casesOn (fun s=>sFor s c=true->C s) s fz10 fz10 fz11 fz2 fz2 fz3 fz7 fz4 fz5 f fz5 fz4 fz4 fz3 fz3 fz3 fz3 fz5 fz5 fz3 fz2 fz4 fz2 fz2 fz2 fz1 fz1 fz1 h
theorem sIf_e {s:Stmt} {c} {C:Stmt->Prop} (h:sIf s c=true) (f:∀ t a b p,c t a b p=true->C (.If t a b p)):C s:=@PySem.Stmt.casesOn (fun s=>sIf s c=true->C s) s fz10 fz10 fz11 fz2 fz2 fz3 fz7 fz4 fz5 fz5 fz5 fz4 f fz3 fz3 fz3 fz3 fz5 fz5 fz3 fz2 fz4 fz2 fz2 fz2 fz1 fz1 fz1 h
theorem sRaise_e {s:Stmt} {c} {C:Stmt->Prop} (h:sRaise s c=true) (f:∀ r d p,c r d p=true->C (.Raise r d p)):C s:=@PySem.Stmt.casesOn (fun s=>sRaise s c=true->C s) s fz10 fz10 fz11 fz2 fz2 fz3 fz7 fz4 fz5 fz5 fz5 fz4 fz4 fz3 fz3 fz3 f fz5 fz5 fz3 fz2 fz4 fz2 fz2 fz2 fz1 fz1 fz1 h
theorem sTry_e {s:Stmt} {c} {C:Stmt->Prop} (h:sTry s c=true) (f:∀ b hs o f p,c b hs o f p=true->C (.Try b hs o f p)):C s:=@PySem.Stmt.casesOn (fun s=>sTry s c=true->C s) s fz10 fz10 fz11 fz2 fz2 fz3 fz7 fz4 fz5 fz5 fz5 fz4 fz4 fz3 fz3 fz3 fz3 f fz5 fz3 fz2 fz4 fz2 fz2 fz2 fz1 fz1 fz1 h
theorem sExpr_e {s:Stmt} {c} {C:Stmt->Prop} (h:sExpr s c=true) (f:∀ e p,c e p=true->C (.Expr e p)):C s:=@PySem.Stmt.casesOn (fun s=>sExpr s c=true->C s) s fz10 fz10 fz11 fz2 fz2 fz3 fz7 fz4 fz5 fz5 fz5 fz4 fz4 fz3 fz3 fz3 fz3 fz5 fz5 fz3 fz2 fz4 fz2 fz2 f fz1 fz1 fz1 h
theorem lNil_e {α:Type} {l:List α} {C:List α->Prop} (h:lNil l=true) (f:C []):C l:=by cases l <;> first | exact f | exact ff h
theorem lCons_e {α:Type} {l:List α} {c} {C:List α->Prop} (h:lCons l c=true) (f:∀ x r,c x r=true->C (x :: r)):C l:=by cases l <;> first | exact f _ _ h | exact ff h
theorem lOne_e {α:Type} {l:List α} {c} {C:List α->Prop} (h:lOne l c=true) (f:∀ x,c x=true->C [x]):C l :=
 lCons_e h fun x r (h:cond (lNil r) (c x) false=true)=>by cases r <;> first | exact f x h | exact ff h
theorem oSome_e {α:Type} {o:Option α} {c} {C:Option α->Prop} (h:oSome o c=true) (f:∀ x,c x=true->C (some x)):C o:=by cases o <;> first | exact f _ h | exact ff h
theorem oNone_e {α:Type} {o:Option α} {C:Option α->Prop} (h:oNone o=true) (f:C none):C o:=by cases o <;> first | exact f | exact ff h
theorem dec_e {α:Type} [DecidableEq α] {a b:α} {C:α->Prop} (h:decide (a=b)=true) (f:C b):C a:=(of_decide_eq_true h)▸f
theorem atK_e {ns:Names} {i:Nat} {x:Str} {p:NameKind->Bool} {C:Prop} (h:atK ns i x p=true) (f:∀ k,ns[i]?=some (x,k)->p k=true->C):C:=by
 unfold atK at h
 generalize ns[i]?=o at *
 refine oSome_e (C:=fun o=>(∀ k,o=some (x,k)->p k=true->C)->C) h (fun y h f=>?_) f
 exact band h fun h1 h2=>f y.2 (congrArg some (Prod.ext (of_decide_eq_true h1) rfl)) h2
end
section
structure Z where
 g:Heap
 ρ:Rho
 k:Nat
 σ:Store
 s:Shared
structure Base where
 P:Places
 prog:Program
 w:World
 hb:Heap
 K:Frag
abbrev Vr (B:Base) (z:Z) (a:AV) (v:Value):Prop:=VR B.P z.g z.ρ a v
abbrev Vrs (B:Base) (z:Z) (a:List AV) (v:List Value):Prop:=VRs B.P z.g z.ρ a v
abbrev Z.N (z:Z):Nat:=z.s.heap.objs.size
noncomputable def Z.put (z:Z) (h:Heap) (t:Nat):Z:=⟨z.g,z.ρ,z.k,z.σ,⟨h,z.s.gens,z.s.drawn,t,z.s.os⟩⟩
noncomputable def Z.gr (z:Z) (g:Heap):Z:=⟨g,z.ρ,z.k,z.σ,z.s⟩
noncomputable def Z.sg (z:Z) (σ:Store):Z:=⟨z.g,z.ρ,z.k,σ,z.s⟩
noncomputable def Z.more (z:Z) (p:Addr×Option Addr) (c:Cell):Z:=⟨z.g,fun i=>if i=z.k then some p else z.ρ i,z.k+1,upd z.σ z.k c,z.s⟩
noncomputable def At (p:Addr×Option Addr) (a:Addr):Prop:=a=p.1∨p.2=some a
theorem at1 {l a:Addr} (h:At (l,none) a):a=l:=h.elim id nofun
set_option genInjectivity true in
inductive U where
 | i (a:Int)
 | s (a:Str)
 | b (a:List UInt8)
 deriving DecidableEq
noncomputable def uOf (a:AV):Option U:=a.casesOn none (fun uu=>none) (fun x=>some (.i x)) (fun x=>some (.s x)) (fun x=>some (.b x)) (fun uu=>none) (fun uu=>none) (fun uu=>none) (fun uu=>none) (fun uu=>none) (fun uu=>none) (fun uu=>none) (fun uu uu=>none) (fun uu uu=>none) (fun uu uu uu=>none) (fun uu=>none)
noncomputable def isU:U->Value->Bool
 | .i a,v=>match v with
  | .int b _=>a==b
  | _=>false
 | .s a,v=>v.isStr a
 | .b a,v=>match v with
  | .bytes b _=>b.toList==a
  | _=>false
noncomputable def kOf (a:AV) (u:List U):Prop:=∃ x y u1 u2,a=.tup [x,y]/\uOf x=some u1/\uOf y=some u2/\u=[u1,u2]
section
variable (P:Places) (g:Heap) (ρ:Rho)
noncomputable def DU:List (AV×AV)->List (U×Value)->Prop
 | [],l=>nilP l True
 | p :: es,l=>consP l fun q kvs=>uOf p.1=some q.1/\VR P g ρ p.2 q.2/\DU es kvs
noncomputable def DP:List (AV×AV)->List (List U×Addr×Value)->Prop
 | [],l=>nilP l True
 | p :: es,l=>consP l fun q kvs=>kOf p.1 q.1/\VR P g ρ p.1 (.ref q.2.1)/\VR P g ρ p.2 q.2.2/\DP es kvs
end
theorem consM {α:Type} {l:List α} {c d:α->List α->Prop} (h:consP l c) (f:∀ x r,c x r->d x r):consP l d:=consE h f
section
variable {P:Places} {g g':Heap} {ρ ρ':Rho} (hg:∀ b o,g.get? b=some o->g'.get? b=some o) (hρ:∀ i p,ρ i=some p->ρ' i=some p)
include hg
theorem RowAt.mono {T:String} {f f':List Value->Prop} {v:Value} (h:RowAt g T f v) (k:∀ l,f l->f' l):RowAt g' T f' v:=h.imp fun uu h=>h.imp fun uu h=>h.imp fun uu h=>⟨h.1,hg _ _ h.2.1,k _ h.2.2⟩
theorem InsAt.mono {c:Addr} {f f':List DictEntry->Prop} {v:Value} (h:InsAt g c f v) (k:∀ l,f l->f' l):InsAt g' c f' v:=h.imp fun uu h=>h.imp fun uu h=>h.imp fun uu h=>h.imp fun uu h=>⟨h.1,hg _ _ h.2.1,hg _ _ h.2.2.1,k _ h.2.2.2⟩
theorem CloAt.mono {l:Nat} {f f':List (Str×Addr)->Prop} {v:Value} (h:CloAt P g l f v) (k:∀ l,f l->f' l):CloAt P g' l f' v:=h.imp fun uu h=>h.imp fun uu h=>h.imp fun uu h=>⟨h.1,hg _ _ h.2.1,h.2.2.1,⟨h.2.2.2.1.is,h.2.2.2.1.glob,h.2.2.2.1.blt,h.2.2.2.1.dfl,h.2.2.2.1.kwd,h.2.2.2.1.code.keeps hg,h.2.2.2.1.names⟩,k _ h.2.2.2.2⟩
include hρ
mutual
theorem vr_mono:∀ {a:AV} {v:Value},VR P g ρ a v->VR P g' ρ' a v
 | .none,_,h=>h
 | .bool _,_,h=>h
 | .int _,_,h=>h
 | .str _,_,h=>h
 | .bytes _,_,h=>h
 | .fn _,_,h=>h
 | .cls _,_,h=>h
 | .blt _,_,h=>h
 | .typ _,_,h=>h
 | .cell _,_,h=>Exists.imp (fun uu h=>⟨hρ _ _ h.1,h.2⟩) h
 | .tup _,_,h=>RowAt.mono hg h fun uu=>vrs_mono
 | .lst _,_,h=>RowAt.mono hg h fun uu=>vrs_mono
 | .inst _ _,_,h=>InsAt.mono hg h fun uu=>vrf_mono
 | .clo _ _,_,h=>CloAt.mono hg h fun uu=>vrc_mono
 | .rng _ _ _,_,h=>Exists.imp (fun uu h=>h.imp fun uu h=>h.imp fun uu h=>h.imp fun uu h=>⟨h.1,hg _ _ h.2⟩) h
 | .set _,_,h=>Exists.imp (fun uu h=>h.imp fun uu h=>⟨h.1,hg _ _ h.2.1,h.2.2⟩) h
theorem vrs_mono:∀ {as:List AV} {vs:List Value},VRs P g ρ as vs->VRs P g' ρ' as vs
 | [],_,h=>h
 | _ :: _,_,h=>consM h fun uu uu h=>⟨vr_mono h.1,vrs_mono h.2⟩
theorem vrc_mono:∀ {as:List AV} {vs:List (Str×Addr)},VRc P g ρ as vs->VRc P g' ρ' as vs
 | [],_,h=>h
 | _ :: _,_,h=>consM h fun uu uu h=>⟨h.1.imp fun uu h=>⟨h.1.imp fun uu h=>⟨hg _ _ h.1,h.2⟩,vr_mono h.2⟩,vrc_mono h.2⟩
theorem vrf_mono:∀ {fs:List (Nat×AV)} {es:List DictEntry},VRf P g ρ fs es->VRf P g' ρ' fs es
 | [],_,h=>h
 | (_,_) :: _,_,h=>consM h fun uu uu h=>⟨h.1,h.2.1,vr_mono h.2.2.1,vrf_mono h.2.2.2⟩
end
theorem du_mono:∀ {es:List (AV×AV)} {kvs:List (U×Value)},DU P g ρ es kvs->DU P g' ρ' es kvs
 | [],_,h=>h
 | _ :: _,_,h=>consM h fun uu uu h=>⟨h.1,vr_mono hg hρ h.2.1,du_mono h.2.2⟩
theorem dp_mono:∀ {es:List (AV×AV)} {kvs:List (List U×Addr×Value)},DP P g ρ es kvs->DP P g' ρ' es kvs
 | [],_,h=>h
 | _ :: _,_,h=>consM h fun uu uu h=>⟨h.1,vr_mono hg hρ h.2.1,vr_mono hg hρ h.2.2.1,dp_mono h.2.2.2⟩
end
end
section
open PySem.SeqAt PySem.MeetsSeq
theorem bytes_slot_refl:Slot "bytes" (cmpInfo .Eq).2.2 "bytes.__eq__":=FB.slot_bytes_eq
theorem sub_int_bytes:isSubtype (.type "int") (.type "bytes")=pure false:=by rw [isSubtype_type];kernel_rfl
theorem sub_bytes_int:isSubtype (.type "bytes") (.type "int")=pure false:=by rw [isSubtype_type];kernel_rfl
theorem sub_str_bytes:isSubtype (.type "str") (.type "bytes")=pure false:=by rw [isSubtype_type];kernel_rfl
theorem sub_bytes_str:isSubtype (.type "bytes") (.type "str")=pure false:=by rw [isSubtype_type];kernel_rfl
theorem bytes_int (b:Array UInt8) (t:Tok) (i:Int) (u:Tok):Gives (Builtin.«bytes.__eq__» ⟨[.bytes b t,.int i u],[]⟩) (.val (Value.notImplemented)) :=
 .of_wp fun M A E s Q h=>by obtain ⟨hp,g,d,tk,os⟩:=s;have f1:=sub_int_bytes;wp_walk;exact ⟨_,rfl,h⟩
theorem bytes_str (b:Array UInt8) (t:Tok) (i:Str) (u:Tok):Gives (Builtin.«bytes.__eq__» ⟨[.bytes b t,.str i u],[]⟩) (.val (Value.notImplemented)) :=
 .of_wp fun M A E s Q h=>by obtain ⟨hp,g,d,tk,os⟩:=s;have f1:=sub_str_bytes;wp_walk;exact ⟨_,rfl,h⟩
theorem int_bytes (b:Array UInt8) (t:Tok) (i:Int) (u:Tok):Gives (Builtin.«int.__eq__» ⟨[.int i u,.bytes b t],[]⟩) (.val (Value.notImplemented)) :=
 .of_wp fun M A E s Q h=>by obtain ⟨hp,g,d,tk,os⟩:=s;wp_walk;exact ⟨_,rfl,h⟩
theorem str_bytes (b:Array UInt8) (t:Tok) (i:Str) (u:Tok):Gives (Builtin.«str.__eq__» ⟨[.str i u,.bytes b t],[]⟩) (.val (Value.notImplemented)) :=
 .of_wp fun M A E s Q h=>by obtain ⟨hp,g,d,tk,os⟩:=s;wp_walk;exact ⟨_,rfl,h⟩
section
variable {A:Around} {s:Shared}
theorem rc_bytes_int (b:Array UInt8) (t:Tok) (i:Int) (u:Tok):RcAt A s (.bytes b t) (.int i u) false:=fun prog w E Q h =>
 rc_eq_decline_or (k:=false) (typeIs_bytes s b t) (typeIs_int s i u) (by decide) sub_int_bytes FB.slot_bytes_eq F.slot_int_eq_refl
  (fun uu hq=>call_gives FB.slot_bytes_eq (typeIs_bytes s b t) FB.entry_bytes_eq (FB.args_bytes_eq_2 _ _) (bytes_int b t i u) hq)
  (fun uu hq=>call_gives F.slot_int_eq_refl (typeIs_int s i u) F.entry_int_eq (F.args_int_eq_2 _ _) (int_bytes b t i u) hq)
  (fun uu hq=>wpAny_of_eq (rfl:isSame (.bytes b t) (.int i u)=pure false) hq) (.inl rfl) h
theorem rc_int_bytes (b:Array UInt8) (t:Tok) (i:Int) (u:Tok):RcAt A s (.int i u) (.bytes b t) false:=fun prog w E Q h =>
 rc_eq_decline_or (k:=false) (typeIs_int s i u) (typeIs_bytes s b t) (by decide) sub_bytes_int F.slot_int_eq bytes_slot_refl
  (fun uu hq=>call_gives F.slot_int_eq (typeIs_int s i u) F.entry_int_eq (F.args_int_eq_2 _ _) (int_bytes b t i u) hq)
  (fun uu hq=>call_gives bytes_slot_refl (typeIs_bytes s b t) FB.entry_bytes_eq (FB.args_bytes_eq_2 _ _) (bytes_int b t i u) hq)
  (fun uu hq=>wpAny_of_eq (rfl:isSame (.int i u) (.bytes b t)=pure false) hq) (.inl rfl) h
theorem rc_bytes_str (b:Array UInt8) (t:Tok) (i:Str) (u:Tok):RcAt A s (.bytes b t) (.str i u) false:=fun prog w E Q h =>
 rc_eq_decline_or (k:=false) (typeIs_bytes s b t) (typeIs_str s i u) (by decide) sub_str_bytes FB.slot_bytes_eq F.slot_str_eq_refl
  (fun uu hq=>call_gives FB.slot_bytes_eq (typeIs_bytes s b t) FB.entry_bytes_eq (FB.args_bytes_eq_2 _ _) (bytes_str b t i u) hq)
  (fun uu hq=>call_gives F.slot_str_eq_refl (typeIs_str s i u) F.entry_str_eq (F.args_str_eq_2 _ _) (str_bytes b t i u) hq)
  (fun uu hq=>wpAny_of_eq (rfl:isSame (.bytes b t) (.str i u)=pure false) hq) (.inl rfl) h
theorem rc_str_bytes (b:Array UInt8) (t:Tok) (i:Str) (u:Tok):RcAt A s (.str i u) (.bytes b t) false:=fun prog w E Q h =>
 rc_eq_decline_or (k:=false) (typeIs_str s i u) (typeIs_bytes s b t) (by decide) sub_bytes_str F.slot_str_eq bytes_slot_refl
  (fun uu hq=>call_gives F.slot_str_eq (typeIs_str s i u) F.entry_str_eq (F.args_str_eq_2 _ _) (str_bytes b t i u) hq)
  (fun uu hq=>call_gives bytes_slot_refl (typeIs_bytes s b t) FB.entry_bytes_eq (FB.args_bytes_eq_2 _ _) (bytes_str b t i u) hq)
  (fun uu hq=>wpAny_of_eq (rfl:isSame (.str i u) (.bytes b t)=pure false) hq) (.inl rfl) h
theorem eq_bytes_int (b:Array UInt8) (t:Tok) (i:Int) (u:Tok):EqAt A s (.bytes b t) (.int i u) false:=fun prog w E Q h=>by
 skip
 refine nG1 ?_
 refine nH1 (fun hab=>absurd (eq_of_beq hab) nofun) (fun uu=>?_)
 exact nE1 (rc_bytes_int b t i u prog w E _ (wpAny_truthy_bool h))
theorem eq_int_bytes (b:Array UInt8) (t:Tok) (i:Int) (u:Tok):EqAt A s (.int i u) (.bytes b t) false:=fun prog w E Q h=>by
 skip
 refine nG1 ?_
 refine nH1 (fun hab=>absurd (eq_of_beq hab) nofun) (fun uu=>?_)
 exact nE1 (rc_int_bytes b t i u prog w E _ (wpAny_truthy_bool h))
theorem eq_bytes_str (b:Array UInt8) (t:Tok) (i:Str) (u:Tok):EqAt A s (.bytes b t) (.str i u) false:=fun prog w E Q h=>by
 skip
 refine nG1 ?_
 refine nH1 (fun hab=>absurd (eq_of_beq hab) nofun) (fun uu=>?_)
 exact nE1 (rc_bytes_str b t i u prog w E _ (wpAny_truthy_bool h))
theorem eq_str_bytes (b:Array UInt8) (t:Tok) (i:Str) (u:Tok):EqAt A s (.str i u) (.bytes b t) false:=fun prog w E Q h=>by
 skip
 refine nG1 ?_
 refine nH1 (fun hab=>absurd (eq_of_beq hab) nofun) (fun uu=>?_)
 exact nE1 (rc_str_bytes b t i u prog w E _ (wpAny_truthy_bool h))
theorem eq_bytes_bytes (b c:List UInt8) (t u:Tok):EqAt A s (.bytes b.toArray t) (.bytes c.toArray u) (decide (b=c)):=fun uu uu uu uu hq=>eqBool_bytes (by simpa using hq)
end
theorem isU_e {k:U} {v:Value} {C:U->Value->Prop} (h:isU k v=true) (i:∀ a t,C (.i a) (.int a t)) (s:∀ a t,C (.s a) (.str a t)) (b:∀ a t,C (.b a) (.bytes (List.toArray a) t)):C k v:=by
 cases k <;> cases v <;> first | exact ff h | skip
 ·cases eq_of_beq h;exact i _ _
 ·cases eq_of_beq h;exact s _ _
 ·cases eq_of_beq h;exact b _ _
noncomputable def uHash (prog:Program) (w:World) (k:U):Int:=k.casesOn (intKind prog w).hash (PySem.strKind prog w).hash (bytesKind prog w).hash
theorem decU {α:Type} [DecidableEq α] {f:α->U} {x y:α} (h:∀ x y,f x=f y->x=y):decide (f x=f y)=decide (x=y):=decide_eq_decide.mpr ⟨h x y,congrArg f⟩
noncomputable def uKind (prog:Program) (w:World):KeyKind prog w U where
 is:=isU
 hash:=uHash prog w
 inj:=fun v a b ha hb=>isU_e (C:=fun a v=>isU b v=true->a=b) ha (fun x t h=>by cases b <;> first | exact congrArg U.i (eq_of_beq h).symm | exact ff h) (fun x t h=>by cases b <;> first | exact congrArg U.s (eq_of_beq h) | exact ff h)
  (fun x t h=>by cases b <;> first | exact congrArg U.b (eq_of_beq h) | exact ff h) hb
 byValue:=fun k v h=>isU_e (C:=fun uu v=>carriedByValue v=true) h (fun uu uu=>rfl) (fun uu uu=>rfl) fun uu uu=>rfl
 pyHash:=fun {A E s k v Q} hv h=>isU_e (C:=fun k v=>Q (uHash prog w k) { s with toks:=s.toks+1 }->wpAny (model prog w) A (PySem.pyHash v) Q E s) hv (fun x t h=>(intKind prog w).pyHash (k:=x) (v:=.int x t) (beq_self_eq_true x) h)
  (fun x t h=>(PySem.strKind prog w).pyHash (k:=x) (v:=.str x t) (beq_self_eq_true x) h) (fun x t h=>(bytesKind prog w).pyHash (k:=x) (v:=.bytes x.toArray t) (beq_self_eq_true x) h) h
 eqBool:=fun {A E s a b u v Q} hu hv h=>isU_e (C:=fun a u=>Q (decide (a=b)) s->wpAny (model prog w) A (PySem.eqBool u v) Q E s) hu
  (fun x t=>isU_e (C:=fun b v=>Q (decide (U.i x=b)) s->wpAny (model prog w) A (PySem.eqBool (.int x t) v) Q E s) hv (fun y u h=>wpAny_eqBool_int ((decU (f:=U.i) fun uu uu e=>U.i.inj e)▸h:Q (decide (x=y)) s)) (fun y u h=>EqAt.int_str x t y u prog w E Q h) fun y u h=>eq_int_bytes _ _ _ _ prog w E Q h)
  (fun x t=>isU_e (C:=fun b v=>Q (decide (U.s x=b)) s->wpAny (model prog w) A (PySem.eqBool (.str x t) v) Q E s) hv (fun y u h=>EqAt.str_int x t y u prog w E Q h) (fun y u h=>wpAny_eqBool_str ((decU (f:=U.s) fun uu uu e=>U.s.inj e)▸h:Q (decide (x=y)) s)) fun y u h=>eq_str_bytes _ _ _ _ prog w E Q h)
  (fun x t=>isU_e (C:=fun b v=>Q (decide (U.b x=b)) s->wpAny (model prog w) A (PySem.eqBool (.bytes x.toArray t) v) Q E s) hv (fun y u h=>eq_bytes_int _ _ _ _ prog w E Q h) (fun y u h=>eq_bytes_str _ _ _ _ prog w E Q h) fun y u h=>eq_bytes_bytes x y t u prog w E Q ((decU (f:=U.b) fun uu uu e=>U.b.inj e)▸h:Q (decide (x=y)) s)) h
 «strs»:=fun k x t v h=>by cases k <;> first | exact ff h | (cases eq_of_beq h;rfl)
end
section
noncomputable def CellAt (B:Base) (z:Z) (p:Addr×Option Addr) (c:Cell):Prop:=c.casesOn
 (fun vs=>p.2=none/\∃ items n,z.s.heap.get? p.1=some (rowObj "list" items n)/\Vrs B z vs items.toList)
 (fun kd es ep=>p.2=none/\((Nat.blt kd 3=true/\(∀ e∈es,keyKind e.1=kd)/\∃ kvs,z.s.heap.DictAt (uKind B.prog B.w) p.1 kvs ep/\DU B.P z.g z.ρ es kvs) ∨
  (kd=3/\∃ kvs ents,z.s.heap.get? p.1=some { cls:=.type "dict",data:=.dict ents ep }/\ents.toList=kvs.map (entryOfKey (tupleKind (uKind B.prog B.w)))/\(kvs.map (·.1)).Nodup/\DP B.P z.g z.ρ es kvs)))
 (fun c fs=>∃ d es n,p.2=some d/\z.s.heap.get? p.1=some (instObj (B.P.ca c) d)/\z.s.heap.get? d=some (dictOf es n)/\p.1≠d/\VRf B.P z.g z.ρ fs es)
abbrev NF (o:Obj):Prop:=¬ (o.cls=.type "frame"/\∃ es ep,o.data=.dict es ep)
noncomputable def Same (N:Nat) (R:Addr->Prop) (h h':Heap):Prop:=∀ b o,h.get? b=some o->¬ R b->h'.get? b=some o∨(N<=b/\¬ NF o/\∃ sl,h'.get? b=some { o with slots:=sl })
theorem Same.refl {N:Nat} (R:Addr->Prop) (h:Heap):Same N R h h:=fun uu uu e uu=>.inl e
theorem Same.trans {N:Nat} {R R' R'':Addr->Prop} {h h₁ h₂:Heap} (x:Same N R h h₁) (y:Same N R' h₁ h₂) (hR:∀ b,R b->R'' b) (hR':∀ b,b < h.objs.size->R' b->R'' b):Same N R'' h h₂:=fun b o e n =>
 (x b o e fun q=>n (hR b q)).elim (fun q=>y b o q fun q=>n (hR' b (Heap.lt_size e) q)) fun ⟨hN,c,sl,q⟩=>(y b _ q fun q=>n (hR' b (Heap.lt_size e) q)).elim (fun q=>.inr ⟨hN,c,sl,q⟩) fun ⟨_,_,sl,q⟩=>.inr ⟨hN,c,sl,q⟩
theorem Same.mono {N:Nat} {R R':Addr->Prop} {h h':Heap} (x:Same N R h h') (hR:∀ b,R b->R' b):Same N R' h h':=fun b o e n=>x b o e fun q=>n (hR b q)
theorem Same.plain {N:Nat} {R:Addr->Prop} {h h':Heap} (x:Same N R h h') {b:Addr} {o:Obj} (e:h.get? b=some o) (n:¬ R b) (c:NF o):h'.get? b=some o:=(x b o e n).elim id fun q=>absurd c q.2.1
theorem Same.of_but {N:Nat} {a:Addr} {h h':Heap} (x:Heap.SameBut a h h'):Same N (·=a) h h':=fun b uu e n=>.inl ((x.2 b n).trans e)
theorem push_le (h:Heap) (o:Obj):h.objs.size<=(h.push o).objs.size:=(Heap.size_push (h:=h) (o:=o))▸Nat.le_succ _
noncomputable def TabAt (g h:Heap) (a:Addr) (q:Str):Prop:=∃ ps,h.get? a=some (PySem.W.tabObj ps)/\TriplesOk ps.toList/\∀ pos c,codeAmong pos ps.toList=some c->g.CodeRec c q
theorem TabAt.move {g g' h h':Heap} {a:Addr} {q:Str} (x:TabAt g h a q) (hg:∀ b o,g.get? b=some o->g'.get? b=some o) (hk:∀ o,h.get? a=some o->NF o->h'.get? a=some o):TabAt g' h' a q :=
 x.imp fun uu x=>⟨hk _ x.1 fun q=>q.2.elim fun uu q=>q.elim nofun,x.2.1,fun pos cd e=>(x.2.2 pos cd e).keeps hg⟩
structure Rep (B:Base) (z:Z):Prop where
 base:∀ b o,B.hb.get? b=some o->z.g.get? b=some o
 stays:∀ b o,z.g.get? b=some o->z.s.heap.get? b=some o
 noframe:∀ a o,z.g.get? a=some o->NF o
 dom:∀ i p,z.ρ i=some p->i < z.k
 has:∀ i c,z.σ i=some c->(z.ρ i).isSome
 cell:∀ i c p,z.σ i=some c->z.ρ i=some p->CellAt B z p c
 out:∀ i c p a,z.σ i=some c->z.ρ i=some p->At p a->z.g.get? a=none
 inj:∀ i j p q a,z.ρ i=some p->z.ρ j=some q->At p a->At q a->i=j
 lt:∀ i p (a:Nat),z.ρ i=some p->At p a->a < z.N
 tabs:∀ a q,B.P.tab a=some q->z.g.get? a=none/\(∀ i p,z.ρ i=some p->¬ At p a)/\TabAt z.g z.s.heap a q
structure Priv (B:Base) (z:Z) (a:Addr):Prop where
 g:z.g.get? a=none
 tab:B.P.tab a=none
 ρ:∀ i p,z.ρ i=some p->¬ At p a
noncomputable def InR (B:Base) (z:Z) (own:Addr->Prop) (a:Addr):Prop:=(∃ i p,z.ρ i=some p/\At p a)∨own a∨(B.P.tab a).isSome
noncomputable def New (own:Addr->Prop) (z:Z) (a:Addr):Prop:=z.N<=a∨own a
structure Go (B:Base) (own:Addr->Prop) (z z':Z):Prop where
 rep:Rep B z'
 gext:∀ b o,z.g.get? b=some o->z'.g.get? b=some o
 gnew:∀ a o,z'.g.get? a=some o->z.g.get? a=some o∨New own z a
 ρext:∀ i p,z.ρ i=some p->z'.ρ i=some p
 ρnew:∀ i p,z'.ρ i=some p->z.ρ i=some p∨∀ a,At p a->New own z a
 kle:z.k<=z'.k
 same:Same B.P.n0 (InR B z own) z.s.heap z'.s.heap
 size:z.N<=z'.N
 gens:z'.s.gens=z.s.gens
 os:z'.s.os=z.s.os
noncomputable def none_:Addr->Prop:=fun uu=>False
section
variable {B:Base} {own own':Addr->Prop} {z z' z'':Z}
theorem New.le {a:Nat} (h:New own z a) (g:z'.N<=z.N) (ho:∀ a,a < z'.N->own a->own' a):New own' z' a :=
 h.elim (fun q=>.inl (nA g q)) fun q=>(Nat.lt_or_ge a z'.N).elim (fun l=>.inr (ho a l q)) .inl
theorem Go.still (R:Rep B z) (R':Rep B z') (hg:z'.g=z.g) (hρ:z'.ρ=z.ρ) (hk:z'.k=z.k) (hh:z'.s.heap=z.s.heap) (hs:z'.s.gens=z.s.gens) (ho:z'.s.os=z.s.os):Go B own z z' :=
 ⟨R',fun uu uu e=>hg▸e,fun uu uu e=>.inl (hg▸e),fun uu uu e=>hρ▸e,fun uu uu e=>.inl (hρ▸e),nG hk.symm,hh▸.refl _ _,nG (congrArg (fun h:Heap=>h.objs.size) hh.symm),hs,ho⟩
theorem Go.refl (R:Rep B z):Go B own z z:=Go.still R R rfl rfl rfl rfl rfl rfl
theorem Rep.tok (R:Rep B z) (t:Nat):Rep B (z.put z.s.heap t):=⟨R.base,R.stays,R.noframe,R.dom,R.has,R.cell,R.out,R.inj,R.lt,R.tabs⟩
theorem Go.tok (R:Rep B z) (t:Nat):Go B own z (z.put z.s.heap t):=Go.still R (R.tok t) rfl rfl rfl rfl rfl rfl
theorem Rep.less {σ:Store} (R:Rep B z) (hσ:∀ i c,σ i=some c->z.σ i=some c):Rep B (z.sg σ) :=
 ⟨R.base,R.stays,R.noframe,R.dom,fun i c e=>R.has i c (hσ i c e),fun i c p e=>R.cell i c p (hσ i c e),fun i c p a e=>R.out i c p a (hσ i c e),R.inj,R.lt,R.tabs⟩
theorem Go.trans {own'':Addr->Prop} (x:Go B own z z') (y:Go B own' z' z'') (hx:∀ a,own a->own'' a) (ho:∀ a,a < z.N->own' a->own'' a):Go B own'' z z'' where
 rep:=y.rep
 gext:=fun b o e=>y.gext b o (x.gext b o e)
 gnew:=fun a o e=>(y.gnew a o e).elim (fun q=>(x.gnew a o q).imp id fun q=>q.imp id (hx a)) fun q=>.inr (q.le x.size ho)
 ρext:=fun i p e=>y.ρext i p (x.ρext i p e)
 ρnew:=fun i p e=>(y.ρnew i p e).elim (fun q=>(x.ρnew i p q).imp id fun q a ha=>(q a ha).imp id (hx a)) fun q=>.inr fun a ha=>(q a ha).le x.size ho
 kle:=nA x.kle y.kle
 same:=x.same.trans y.same (fun b q=>q.imp id fun q=>q.imp (hx b) id) fun b hb q=>q.elim (fun ⟨i,p,e,ha⟩=>(x.ρnew i p e).elim (fun e=>.inl ⟨i,p,e,ha⟩) fun q=>(q b ha).elim (fun q=>absurd hb (nK.mpr q)) fun q=>.inr (.inl (hx b q))) fun q=>.inr (q.imp (ho b hb) id)
 size:=nA x.size y.size
 gens:=y.gens.trans x.gens
 os:=y.os.trans x.os
theorem Go.then (x:Go B own z z') (y:Go B own z' z''):Go B own z z'':=x.trans y (fun uu q=>q) fun uu uu q=>q
theorem Go.mono (x:Go B own z z') (ho:∀ a,own a->own' a):Go B own' z z' :=
 ⟨x.rep,x.gext,fun a o e=>(x.gnew a o e).imp id (·.imp id (ho a)),x.ρext,fun i p e=>(x.ρnew i p e).imp id fun q a ha=>(q a ha).imp id (ho a),x.kle,x.same.mono fun b q=>q.imp id (·.imp (ho b) id),x.size,x.gens,x.os⟩
theorem Go.of (x:Go B none_ z z'):Go B own z z':=x.mono fun uu q=>q.elim
theorem Go.vr (x:Go B own z z') {a:AV} {v:Value} (h:Vr B z a v):Vr B z' a v:=vr_mono x.gext x.ρext h
theorem Go.vrs (x:Go B own z z') {a:List AV} {v:List Value} (h:Vrs B z a v):Vrs B z' a v:=vrs_mono x.gext x.ρext h
theorem Go.less {σ:Store} (x:Go B own z z') (hσ:∀ i c,σ i=some c->z'.σ i=some c):Go B own z (z'.sg σ):=⟨x.rep.less hσ,x.gext,x.gnew,x.ρext,x.ρnew,x.kle,x.same,x.size,x.gens,x.os⟩
theorem Priv.step {a:Nat} (x:Priv B z a) (lt:a < z.N) (y:Go B own z z') (ho:¬ own a):Priv B z' a where
 g:=by
  cases q:z'.g.get? a with
  | none=>rfl
  | some o=>exact (y.gnew a o q).elim (fun q=>nomatch x.g.symm.trans q) fun q=>q.elim (fun q=>absurd lt (nK.mpr q)) fun q=>absurd q ho
 tab:=x.tab
 ρ:=fun i p e ha=>(y.ρnew i p e).elim (fun q=>x.ρ i p q ha) fun q=>(q a ha).elim (fun q=>absurd lt (nK.mpr q)) ho
theorem Priv.out {a:Addr} (x:Priv B z a) (ho:¬ own a):¬ InR B z own a:=fun q=>q.elim (fun ⟨i,p,e,h⟩=>x.ρ i p e h) fun q=>q.elim ho fun q=>ff ((congrArg Option.isSome x.tab).symm.trans q)
theorem CellAt.move {p:Addr×Option Addr} {c:Cell} (x:CellAt B z p c) (hk:∀ a,At p a->∀ o,z.s.heap.get? a=some o->z'.s.heap.get? a=some o) (hg:∀ b o,z.g.get? b=some o->z'.g.get? b=some o) (hρ:∀ i q,z.ρ i=some q->z'.ρ i=some q):CellAt B z' p c :=
 match c,x with
 | .list vs,x=>⟨x.1,x.2.imp fun uu x=>x.imp fun uu x=>⟨hk _ (.inl rfl) _ x.1,vrs_mono hg hρ x.2⟩⟩
 | .dict kd es ep,x=>⟨x.1,x.2.imp (fun x=>⟨x.1,x.2.1,x.2.2.imp fun uu x=>⟨x.1.imp fun uu x=>x.imp fun uu x=>⟨hk _ (.inl rfl) _ x.1,x.2⟩,du_mono hg hρ x.2⟩⟩) fun x=>⟨x.1,x.2.imp fun uu x=>x.imp fun uu x=>⟨hk _ (.inl rfl) _ x.1,x.2.1,x.2.2.1,dp_mono hg hρ x.2.2.2⟩⟩⟩
 | .inst c fs,x=>Exists.imp (fun uu x=>x.imp fun uu x=>x.imp fun uu x=>⟨x.1,hk _ (.inl rfl) _ x.2.1,hk _ (.inr x.1) _ x.2.2.1,x.2.2.2.1,vrf_mono hg hρ x.2.2.2.2⟩) x
theorem nf_ref {o:Obj} {c:Addr} (h:o.cls=.ref c):NF o:=fun q=>nomatch h.symm.trans q.1
theorem nf_of {o:Obj} {t:String} (h:o.cls=.type t) (ht:(t=="frame")=false):NF o:=fun q=>by
 have e:=h.symm.trans q.1
 cases e
 exact ff (ht.symm.trans rfl)
theorem CellAt.there {p:Addr×Option Addr} {c:Cell} (x:CellAt B z p c) {a:Addr} (ha:At p a):∃ o,z.s.heap.get? a=some o/\NF o:=by
 have l:p.2=none->(∃ o,z.s.heap.get? p.1=some o/\NF o)->∃ o,z.s.heap.get? a=some o/\NF o:=fun e h=>ha.elim (fun q=>q▸h) fun q=>nomatch e.symm.trans q
 cases c with
 | list vs=>exact l x.1 (x.2.elim fun uu x=>x.elim fun uu x=>⟨_,x.1,nf_of rfl rfl⟩)
 | dict kd es ep=>exact l x.1 (x.2.elim (fun x=>x.2.2.elim fun uu x=>x.1.elim fun uu x=>x.elim fun uu x=>⟨_,x.1,nf_of x.2.1.1 rfl⟩) fun x=>x.2.elim fun uu x=>x.elim fun uu x=>⟨_,x.1,nf_of rfl rfl⟩)
 | inst c fs=>exact Exists.elim x fun d x=>x.elim fun es x=>x.elim fun n x=>ha.elim (fun q=>⟨_,q▸x.2.1,nf_ref rfl⟩) fun q=>⟨_,oJ (x.1.symm.trans q)▸x.2.2.1,nf_of rfl rfl⟩
theorem notFreed {h:Heap} {a:Addr} {o:Obj} (e:h.get? a=some o):o.isFreed=false:=(Heap.get?_some_iff.mp e).2
theorem grow_g {g h:Heap} (n:Addr) (o:Obj) (hs:∀ b o,g.get? b=some o->h.get? b=some o) (hn:h.get? n=some o):∃ g':Heap,(∀ b o,g.get? b=some o->g'.get? b=some o)/\(∀ b o,g'.get? b=some o->h.get? b=some o)/\g'.get? n=some o/\∀ a o',g'.get? a=some o'->g.get? a=some o'∨a=n:=by
 let f:Addr->Option Obj:=fun a=>if a=n then some o else g.get? a
 have fh:∀ b x,f b=some x->h.get? b=some x:=fun b x e=>by
  by_cases q:b=n
  ·exact q▸(oJ ((if_pos q).symm.trans e))▸hn
  ·exact hs _ _ ((if_neg q).symm.trans e)
 have gt:∀ b x,(⟨Array.ofFn (n:=h.objs.size) fun i=>(f i).getD { cls:=.none,data:=.freed },{}⟩:Heap).get? b=some x↔f b=some x:=fun b x=>by
  refine ⟨fun e=>?_,fun e=>Heap.get?_some_iff.mpr ⟨?_,notFreed (fh b x e)⟩⟩
  ·refine eD2 (Heap.get?_some_iff.mp e) fun e1 e2=>?_
   simp only [Array.getElem?_ofFn] at e1
   split at e1
   ·cases q:f b with
    | none=>rw [q] at e1;obtain rfl:=oJ e1;exact nomatch e2
    | some o'=>rw [q] at e1;exact e1
   ·exact nn e1
  ·simp only [Array.getElem?_ofFn,Heap.lt_size (fh b x e),dite_true,e,Option.getD_some]
 refine ⟨_,fun b x e=>(gt b x).mpr ?_,fun b x e=>fh b x ((gt b x).mp e),(gt n o).mpr (if_pos rfl),fun a x e=>?_⟩
 ·by_cases q:b=n
  ·exact (if_pos q).trans ((q▸hn).symm.trans (hs _ _ e))
  ·exact (if_neg q).trans e
 ·by_cases q:a=n
  ·exact .inr q
  ·exact .inl ((if_neg q).symm.trans ((gt a x).mp e))
theorem Go.mine (R:Rep B z) {h':Heap} (hs:Same B.P.n0 own z.s.heap h') (hl:∀ a,own a->a < z.N->Priv B z a) (hz:z.N<=h'.objs.size) (t:Nat):Go B own z (z.put h' t):=by
 have keep:∀ a o,z.s.heap.get? a=some o->(Priv B z a->False)->NF o->h'.get? a=some o:=fun a o e n c=>hs.plain e (fun q=>n (hl a q (Heap.lt_size e))) c
 have ng:∀ a o,z.g.get? a=some o->h'.get? a=some o:=fun a o e=>keep a o (R.stays a o e) (fun q=>nomatch q.g.symm.trans e) (R.noframe a o e)
 refine ⟨⟨R.base,ng,R.noframe,R.dom,R.has,fun i c p e1 e2=>?_,R.out,R.inj,fun i p a e1 e2=>nD (R.lt i p a e1 e2) hz,fun a q e=>?_⟩,fun uu uu e=>e,fun uu uu e=>.inl e,fun uu uu e=>e,fun uu uu e=>.inl e,nB _,hs.mono fun uu q=>.inr (.inl q),hz,rfl,rfl⟩
 ·refine (R.cell i c p e1 e2).move (z':=z.put h' t) (fun a ha o e=>?_) (fun uu uu e=>e) (fun uu uu e=>e)
  refine eX1 ((R.cell i c p e1 e2).there ha) fun o' qA1=>eD2 qA1 fun e' hc=>?_
  exact keep a o e (fun q=>q.ρ i p e2 ha) (oJ (e'.symm.trans e)▸hc)
 ·exact ⟨(R.tabs a q e).1,(R.tabs a q e).2.1,(R.tabs a q e).2.2.move (fun uu uu e=>e) fun o e1 e2=>keep a o e1 (fun q'=>nomatch q'.tab.symm.trans e) e2⟩
theorem Go.freeze (R:Rep B z) {a:Addr} {o:Obj} (ht:B.P.tab a=none) (hl:∀ i c p,z.σ i=some c->z.ρ i=some p->¬ At p a) (ho:z.s.heap.get? a=some o) (hc:NF o):∃ g',Go B (·=a) z (z.gr g')/\g'.get? a=some o:=by
 refine eX1 (grow_g a o R.stays ho) fun g' qA2=>eD4 qA2 fun a1 a2 a3 a4=>?_
 have none':∀ b,z.g.get? b=none->b≠a->g'.get? b=none:=fun b e n=>by
  cases q:g'.get? b with
  | none=>rfl
  | some o'=>exact (a4 b o' q).elim (fun q=>nomatch e.symm.trans q) fun q=>absurd q n
 refine ⟨g',⟨⟨fun b o' e=>a1 _ _ (R.base _ _ e),a2,fun b o' e=>(a4 b o' e).elim (R.noframe b o') fun q=>oJ (a3.symm.trans (q▸e))▸hc,R.dom,R.has,fun i c p e1 e2=>(R.cell i c p e1 e2).move (z':=z.gr g') (fun uu uu uu e=>e) a1 (fun uu uu e=>e),
  fun i c p b e1 e2 e3=>none' b (R.out i c p b e1 e2 e3) fun q=>hl i c p e1 e2 (q▸e3),R.inj,R.lt,fun b q e=>?_⟩,a1,fun b o' e=>(a4 b o' e).imp id .inr,fun uu uu e=>e,fun uu uu e=>.inl e,nB _,.refl _ _,nB _,rfl,rfl⟩,a3⟩
 exact ⟨none' b (R.tabs b q e).1 (fun q'=>nomatch ht.symm.trans (q'▸e:B.P.tab a=some q)),(R.tabs b q e).2.1,(R.tabs b q e).2.2.move a1 fun uu e uu=>e⟩
theorem Go.adopt (R:Rep B z) {p:Addr×Option Addr} {c:Cell} (hp:∀ a,At p a->Priv B z a) (hc:CellAt B z p c):Go B (At p) z (z.more p c):=by
 have hρ:∀ i q,z.ρ i=some q->(z.more p c).ρ i=some q:=fun i q e=>(if_neg (nH (R.dom i q e))).trans e
 have old:∀ i q,(z.more p c).ρ i=some q->(i=z.k/\q=p)∨(i≠z.k/\z.ρ i=some q):=fun i q e=>by
  by_cases h:i=z.k
  ·exact .inl ⟨h,oJ (e.symm.trans (if_pos h))⟩
  ·exact .inr ⟨h,(if_neg h).symm.trans e⟩
 have olds:∀ i d,(z.more p c).σ i=some d->i≠z.k->z.σ i=some d:=fun i d e h=>(if_neg h).symm.trans e
 refine ⟨⟨R.base,R.stays,R.noframe,fun i q e=>?_,fun i d e=>?_,fun i d q e1 e2=>?_,fun i d q a e1 e2 e3=>?_,fun i j q r a e1 e2 e3 e4=>?_,fun i q a e1 e2=>?_,fun a q e=>?_⟩,fun uu uu e=>e,fun uu uu e=>.inl e,hρ,fun i q e=>?_,Nat.le_succ _,.refl _ _,nB _,rfl,rfl⟩
 ·exact (old i q e).elim (fun h=>h.1▸nQ _) fun h=>nX (R.dom i q h.2)
 ·by_cases h:i=z.k
  ·exact congrArg Option.isSome (if_pos h:(z.more p c).ρ i=some p)
  ·exact (congrArg Option.isSome (if_neg h:(z.more p c).ρ i=z.ρ i)).trans (R.has i d (olds i d e h))
 ·exact (old i q e2).elim (fun h=>by cases h.2;cases (if_pos h.1:(z.more p c).σ i=some c).symm.trans e1;exact hc.move (z':=z.more p c) (fun uu uu uu e=>e) (fun uu uu e=>e) hρ) fun h=>(R.cell i d q (olds i d e1 h.1) h.2).move (z':=z.more p c) (fun uu uu uu e=>e) (fun uu uu e=>e) hρ
 ·exact (old i q e2).elim (fun h=>(hp a (h.2▸e3)).g) fun h=>R.out i d q a (olds i d e1 h.1) h.2 e3
 ·exact (old i q e1).elim (fun h=>(old j r e2).elim (fun h'=>h.1.trans h'.1.symm) fun h'=>absurd e4 ((hp a (h.2▸e3)).ρ j r h'.2)) fun h=>(old j r e2).elim (fun h'=>absurd e3 ((hp a (h'.2▸e4)).ρ i q h.2)) fun h'=>R.inj i j q r a h.2 h'.2 e3 e4
 ·exact (old i q e1).elim (fun h=>(hc.there (h.2▸e2)).elim fun o h=>Heap.lt_size h.1) fun h=>R.lt i q a h.2 e2
 ·exact ⟨(R.tabs a q e).1,(fun i r e1 ha=>(old i r e1).elim (fun h=>nomatch (hp a (h.2▸ha)).tab.symm.trans e) fun h=>(R.tabs a q e).2.1 i r h.2 ha),(R.tabs a q e).2.2⟩
 ·exact (old i q e).elim (fun h=>.inr fun a ha=>.inr (h.2▸ha)) fun h=>.inl h.2
theorem Go.turned (R:Rep B z) {i:Nat} {p:Addr×Option Addr} {c₀ c:Cell} (hσ:z.σ i=some c₀) (hρ:z.ρ i=some p) {h':Heap} (hk:∀ b,¬ At p b->h'.get? b=z.s.heap.get? b) (hz:h'.objs.size=z.N) (t:Nat)
  (hc:CellAt B (z.put h' t) p c):Go B own z ((z.put h' t).sg (upd z.σ i c)):=by
 have keep:∀ a o,z.s.heap.get? a=some o->¬ At p a->h'.get? a=some o:=fun a o e n=>(hk a n).trans e
 refine ⟨⟨R.base,fun b o e=>keep b o (R.stays b o e) (fun q=>nomatch (R.out i c₀ p b hσ hρ q).symm.trans e),R.noframe,R.dom,fun j d e=>?_,fun j d q e1 e2=>?_,fun j d q a e1 e2 e3=>?_,R.inj,fun j q a e1 e2=>(hz▸R.lt j q a e1 e2:a < h'.objs.size),
  fun a q e=>⟨(R.tabs a q e).1,(R.tabs a q e).2.1,(R.tabs a q e).2.2.move (fun uu uu e=>e) fun o e1 uu=>keep a o e1 ((R.tabs a q e).2.1 i p hρ)⟩⟩,fun uu uu e=>e,fun uu uu e=>.inl e,fun uu uu e=>e,fun uu uu e=>.inl e,nB _,fun b o e n=>.inl (keep b o e fun q=>n (.inl ⟨i,p,hρ,q⟩)),nG hz.symm,rfl,rfl⟩
 ·by_cases q:j=i
  ·exact q▸congrArg Option.isSome hρ
  ·exact R.has j d ((if_neg q).symm.trans e)
 ·by_cases h:j=i
  ·obtain rfl:=oJ ((if_pos h:upd z.σ i c j=some c).symm.trans e1);obtain rfl:=oJ (hρ.symm.trans (h▸e2:z.ρ i=some q));exact hc
  ·exact (R.cell j d q ((if_neg h).symm.trans e1) e2).move (z':=(z.put h' t).sg (upd z.σ i c)) (fun a ha o e=>keep a o e fun q2=>h (R.inj j i q p a e2 hρ ha q2)) (fun uu uu e=>e) (fun uu uu e=>e)
 ·by_cases h:j=i
  ·exact R.out i c₀ p a hσ hρ (oJ (hρ.symm.trans (h▸e2))▸e3)
  ·exact R.out j d q a ((if_neg h).symm.trans e1) e2 e3
theorem Priv.new (R:Rep B z) {a:Nat} (h:z.N<=a):Priv B z a where
 g:=by
  cases q:z.g.get? a with
  | none=>rfl
  | some o=>exact absurd (Heap.lt_size (R.stays _ _ q)) (nK.mpr h)
 tab:=by
  cases q:B.P.tab a with
  | none=>rfl
  | some r=>exact (R.tabs a r q).2.2.elim fun uu e=>absurd (Heap.lt_size e.1) (nK.mpr h)
 ρ:=fun i p e ha=>absurd (R.lt i p a e ha) (nK.mpr h)
theorem Priv.put {a:Addr} (x:Priv B z a) (h:Heap) (t:Nat):Priv B (z.put h t) a:=⟨x.g,x.tab,x.ρ⟩
theorem Go.push (R:Rep B z) {h':Heap} (hk:∀ b o,z.s.heap.get? b=some o->h'.get? b=some o) (hz:z.N<=h'.objs.size) (t:Nat):Go B none_ z (z.put h' t) :=
 Go.mine R (fun b o e uu=>.inl (hk b o e)) (fun uu q=>q.elim) hz t
theorem Go.frozen (R:Rep B z) (o:Obj) (hf:o.isFreed=false) (hc:NF o) (t:Nat):∃ g',Go B none_ z ((z.put (z.s.heap.push o) t).gr g')/\g'.get? z.N=some o:=by
 have g₁:=Go.push R (h':=z.s.heap.push o) (fun b x e=>Heap.get?_push_of_some o e) (push_le _ _) t
 have P:=(Priv.new R (nB z.N)).put (z.s.heap.push o) t
 refine eX1 (Go.freeze g₁.rep P.tab (fun i c p uu e=>P.ρ i p e) (Heap.get?_push_size _ hf) hc) fun g' qA3=>eD2 qA3 fun g₂ e=>?_
 exact ⟨g',g₁.trans g₂ (fun uu q=>q) fun a ha q=>absurd ha (nK.mpr (nG q.symm)),e⟩
theorem Go.made (R:Rep B z) {h':Heap} {p:Addr×Option Addr} {c:Cell} (hk:∀ b o,z.s.heap.get? b=some o->h'.get? b=some o) (hz:z.N<=h'.objs.size) (hp:∀ a:Nat,At p a->z.N<=a) (t:Nat) (hc:CellAt B (z.put h' t) p c):Go B none_ z ((z.put h' t).more p c) :=
 have g₁:=Go.push R hk hz t
 g₁.trans (Go.adopt g₁.rep (fun a ha=>(Priv.new R (hp a ha)).put h' t) hc) (fun uu q=>q) fun a ha q=>absurd ha (nK.mpr (hp a q))
end
end
section
noncomputable def kindOk (kd:NameKind) (k:Option NameKind):Prop:=k=some kd∨(kd=.free/\k=some .cell)
noncomputable def Own (env:Env) (ns:Names) (vars:Vars) (a:Addr):Prop:=a=env.locals∨∃ (i:Nat) (x:Str),ns[i]?=some (x,NameKind.cell)/\vars[i]?=some none/\env.cells.lookup x=some a
noncomputable def OwnB (env:Env) (ns:Names) (a:Addr):Prop:=a=env.locals∨∃ (i:Nat) (x:Str),ns[i]?=some (x,NameKind.cell)/\env.cells.lookup x=some a
theorem Own.b {env:Env} {ns:Names} {vars:Vars} {a:Addr} (h:Own env ns vars a):OwnB env ns a:=h.imp id fun h=>h.imp fun uu h=>h.imp fun uu h=>⟨h.1,h.2.2⟩
noncomputable def FO (h:Heap) (L:Addr):Prop:=∃ o,h.get? L=some o/\¬ NF o
structure FrZ (B:Base) (env:Env) (ns:Names) (vars:Vars) (z:Z):Prop where
 kind:env.scope.kind=.function
 glob:env.globals=mainGlobals
 blt:env.builtins=builtinsNs
 kinds:∀ (i:Nat) (x:Str) kd,ns[i]?=some (x,kd)->kindOk kd (env.kindOf x)
 len:vars.length=ns.length
 nodup:(ns.map (·.1)).Nodup
 loc:∃ m,z.s.heap.Ns env.locals m/\∀ (i:Nat) (x:Str) (a:AV),ns[i]?=some (x,NameKind.local)->vars[i]?=some (some a)->∃ v,m x=some v/\Vr B z a v
 cel:∀ (i:Nat) (x:Str) (kd:NameKind) (a:AV),ns[i]?=some (x,kd)->kd=NameKind.cell∨kd=NameKind.free->vars[i]?=some (some a)->∃ c v,env.cells.lookup x=some c/\z.g.IsCell c (some v)/\Vr B z a v
 opn:∀ (i:Nat) (x:Str),ns[i]?=some (x,NameKind.cell)->vars[i]?=some none->∃ c,env.cells.lookup x=some c/\z.s.heap.IsCell c none
 out:∀ a,Own env ns vars a->Priv B z a/\(a:Nat) < z.N
 code:∀ c t q,B.P.cdo ns=some (c,t,q)->env.code=.ref c/\env.qual ++ "<lambda>"=q
 apart:∀ (i:Nat) (x:Str) (c:Addr),ns[i]?=some (x,NameKind.cell)->env.cells.lookup x=some c->c≠env.locals
 cinj:∀ (i j:Nat) (x y:Str) (c:Addr),ns[i]?=some (x,NameKind.cell)->ns[j]?=some (y,NameKind.cell)->env.cells.lookup x=some c->env.cells.lookup y=some c->i=j
 lcls:∀ L,env.frame=some L->(L:Nat) < z.N/\(L=env.locals->FO z.s.heap L)
noncomputable def Frames (B:Base) (fs:List Env) (z:Z):Prop:=∀ env∈fs,env.scope.kind=.function/\∃ L:Nat,env.frame=some L/\Priv B z L/\FO z.s.heap L/\B.P.n0<=L
structure CxZ (B:Base) (A:Around) (fs:List Env) (n:Nat) (z:Z):Prop where
 frames:A.frames=some fs
 handled:A.handled=none
 depth:A.depth+20*n+10<=600
 units:A.units+100*n+50<=5000
 lie:Frames B fs z
 big:B.P.n0<=z.N
section
variable {B:Base} {own:Addr->Prop} {z z':Z} {env:Env} {ns:Names} {vars:Vars} {A:Around} {fs:List Env} {n:Nat}
theorem Same.obj {N:Nat} {R:Addr->Prop} {h h':Heap} (x:Same N R h h') {b:Addr} {o:Obj} (e:h.get? b=some o) (n:¬ R b):∃ o',h'.get? b=some o'/\o'.data=o.data/\(NF o'->NF o) :=
 (x b o e n).elim (fun q=>⟨o,q,rfl,id⟩) fun ⟨_,_,sl,q⟩=>⟨_,q,rfl,id⟩
theorem ns_same {N:Nat} {R:Addr->Prop} {h h':Heap} (x:Same N R h h') {L:Addr} {m:Str->Option Value} (hn:h.Ns L m) (nR:¬ R L):h'.Ns L m :=
 hn.elim fun o hn=>hn.elim fun es hn=>hn.elim fun ep hn=>(x.obj hn.1 nR).elim fun o' q=>⟨o',es,ep,q.1,q.2.1.trans hn.2.1,hn.2.2⟩
theorem cell_same {N:Nat} {R:Addr->Prop} {h h':Heap} (x:Same N R h h') {c:Addr} {v:Option Value} (hc:h.IsCell c v) (nR:¬ R c):h'.IsCell c v :=
 hc.elim fun o hc=>(x.obj hc.1 nR).imp fun o' q=>⟨q.1,q.2.1.trans hc.2⟩
theorem FO.same {N:Nat} {R:Addr->Prop} {h h':Heap} {L:Addr} (f:FO h L) (x:Same N R h h') (nR:¬ R L):FO h' L:=f.elim fun o f=>(x.obj f.1 nR).imp fun o' q=>⟨q.1,fun n=>f.2 (q.2.2 n)⟩
theorem isCell_in {g h:Heap} (x:∀ b o,g.get? b=some o->h.get? b=some o) {c:Addr} {v:Option Value} (hc:g.IsCell c v):h.IsCell c v:=hc.imp fun uu q=>⟨x _ _ q.1,q.2⟩
theorem FrZ.step (F:FrZ B env ns vars z) (x:Go B own z z') (ho:∀ a,Own env ns vars a->¬ own a):FrZ B env ns vars z' :=
 have no:∀ a,Own env ns vars a->¬ InR B z own a:=fun a ha=>(F.out a ha).1.out (ho a ha)
 ⟨F.kind,F.glob,F.blt,F.kinds,F.len,F.nodup,F.loc.imp fun m h=>⟨ns_same x.same h.1 (no _ (.inl rfl)),fun i y a e1 e2=>(h.2 i y a e1 e2).imp fun v q=>⟨q.1,x.vr q.2⟩⟩,
  fun i y kd a e1 e2 e3=>(F.cel i y kd a e1 e2 e3).imp fun c h=>h.imp fun v h=>⟨h.1,isCell_in x.gext h.2.1,x.vr h.2.2⟩,fun i y e1 e2=>(F.opn i y e1 e2).imp fun c h=>⟨h.1,cell_same x.same h.2 (no c (.inr ⟨i,y,e1,e2,h.1⟩))⟩,
  fun a ha=>⟨(F.out a ha).1.step (F.out a ha).2 x (ho a ha),nD (F.out a ha).2 x.size⟩,F.code,F.apart,F.cinj,fun L hL=>⟨nD (F.lcls L hL).1 x.size,fun e=>((F.lcls L hL).2 e).same x.same (no L (.inl e))⟩⟩
theorem FrZ.go (F:FrZ B env ns vars z) (x:Go B none_ z z'):FrZ B env ns vars z':=F.step x fun uu uu q=>q
theorem Frames.step (f:Frames B fs z) (x:Go B own z z') (ho:∀ env∈fs,∀ L,env.frame=some L->¬ own L):Frames B fs z':=fun env he =>
 ⟨(f env he).1,(f env he).2.imp fun L h=>⟨h.1,h.2.1.step (h.2.2.1.elim fun o q=>Heap.lt_size q.1) x (ho env he L h.1),h.2.2.1.same x.same (h.2.1.out (ho env he L h.1)),h.2.2.2⟩⟩
theorem CxZ.step (C:CxZ B A fs n z) (x:Go B own z z') (ho:∀ env∈fs,∀ L,env.frame=some L->¬ own L):CxZ B A fs n z':=⟨C.frames,C.handled,C.depth,C.units,C.lie.step x ho,nA C.big x.size⟩
theorem CxZ.go (C:CxZ B A fs n z) (x:Go B none_ z z'):CxZ B A fs n z':=C.step x fun uu uu uu uu q=>q
theorem lookup_idx {x:Str} {kd:NameKind}:∀ {ns:Names},ns.lookup x=some kd->∃ i:Nat,ns[i]?=some (x,kd)
 | (y,k) :: r,h=>by
  by_cases q:x=y
  ·subst q
   rw [List.lookup_cons_self] at h
   exact ⟨0,congrArg (fun o=>o.map fun k=>(x,k)) h⟩
  ·rw [List.lookup_cons,beq_false_of_ne q] at h
   exact (lookup_idx h).elim fun i e=>⟨i+1,e⟩
theorem nodup_at {i j:Nat} {x:Str} {k l:NameKind} (hn:(ns.map (·.1)).Nodup) (h1:ns[i]?=some (x,k)) (h2:ns[j]?=some (x,l)):i=j :=
 have e:∀ {i:Nat} {k},ns[i]?=some (x,k)->(ns.map (·.1))[i]?=some x:=fun {i k} h=>(List.getElem?_map ..).trans (congrArg (Option.map (·.1)) h)
 (List.getElem?_inj (List.getElem?_eq_some_iff.mp (e h1)).1 hn).mp ((e h1).trans (e h2).symm)
theorem load_slot {x:Str} {kd:NameKind} {i:Nat} {a:AV} {Q:Value->Shared->Prop} {E:Value->Shared->Prop} (R:Rep B z) (F:FrZ B env ns vars z) (hi:ns[i]?=some (x,kd)) (hk:isAny kd=true)
  (hv:vars[i]?=some (some a)) (hQ:∀ v,Vr B z a v->Q v z.s) (hcd:(x==("__classdict__":Str))=false):wpAny (model B.prog B.w) A (loadName env x) Q E z.s:=by
 have hko:=F.kinds i x kd hi
 have own:∀ {kd'},kd'=NameKind.cell∨kd'=NameKind.free->ns[i]?=some (x,kd')->env.kindOf x=some .free∨env.kindOf x=some .cell->wpAny (model B.prog B.w) A (loadName env x) Q E z.s:=fun {kd'} hk hi h =>
  (F.cel i x kd' a hi hk hv).elim fun c q=>q.elim fun v q=>h.elim (fun h=>wpAny_loadName_free F.kind h q.1 (isCell_in R.stays q.2.1) (hQ v q.2.2) hcd) fun h=>wpAny_loadName_cell F.kind h q.1 (isCell_in R.stays q.2.1) (hQ v q.2.2)
 cases kd
 ·refine F.loc.elim fun m q=>(q.2 i x a hi hv).elim fun v r=>wpAny_loadName_local F.kind (hko.resolve_right fun q=>nomatch q.1) q.1 r.1 (hQ v r.2)
 ·exact own (.inl rfl) hi (.inr (hko.resolve_right fun q=>nomatch q.1))
 ·exact own (.inr rfl) hi (hko.imp id (·.2))
 ·exact ff hk
 ·exact ff hk
end
structure ExcF (B:Base) (fl:Value->Prop) (N:Nat) (z:Z) (t:AV) (e:Nat):Prop where
 is:∃ oe vs d m v,z.s.heap.get? e=some oe/\oe.cls=.ref (B.P.ca 0)/\oe.data=.fields vs/\oe.dict=some d/\z.g.Ns d m/\m (Str.ofString "told")=some v/\Vr B z t v /\
  (vs[1]?=some .none∨∃ (T:Nat) (oT:Obj) (ts:Array Value) (f:Value),vs[1]?=some (.ref T)/\T≠e/\N<=T/\Priv B z T/\z.s.heap.get? T=some oT/\oT.data=.fields ts/\ts[3]?=some f/\fl f)
 out:Priv B z e
 new:N<=e
abbrev ExcR (B:Base):Nat->Z->AV->Nat->Prop:=ExcF B (·=.none)
theorem ExcF.le {B:Base} {fl fl':Value->Prop} {N M:Nat} {z:Z} {t:AV} {e:Nat} (x:ExcF B fl N z t e) (h:M<=N) (hf:∀ f,fl f->fl' f):ExcF B fl' M z t e where
 is:=x.is.imp fun uu q=>q.imp fun uu q=>q.imp fun uu q=>q.imp fun uu q=>q.imp fun uu q=>⟨q.1,q.2.1,q.2.2.1,q.2.2.2.1,q.2.2.2.2.1,q.2.2.2.2.2.1,q.2.2.2.2.2.2.1,q.2.2.2.2.2.2.2.imp id fun q=>q.imp fun uu q=>q.imp fun uu q=>q.imp fun uu q=>q.imp fun uu q=>⟨q.1,q.2.1,nA h q.2.2.1,q.2.2.2.1,q.2.2.2.2.1,q.2.2.2.2.2.1,q.2.2.2.2.2.2.1,hf _ q.2.2.2.2.2.2.2⟩⟩
 out:=x.out
 new:=nA h x.new
theorem ExcF.older {B:Base} {fl:Value->Prop} {N M:Nat} {z:Z} {t:AV} {e:Nat} (x:ExcF B fl N z t e) (h:M<=N):ExcF B fl M z t e:=x.le h fun uu q=>q
noncomputable def Runs (B:Base) {α:Type} (A:Around) (z:Z) (t:Sem α) (Qa:Z->α->Prop) (X:PostV):Prop :=
 ∀ (Qc:α->Shared->Prop) (E:Value->Shared->Prop),(∀ z' a,Go B none_ z z'->Qa z' a->Qc a z'.s)->(∀ z' a e,Go B none_ z z'->ExcR B z.N z' a e->X a z'.k z'.σ->E (.ref e) z'.s)->wpAny (model B.prog B.w) A t Qc E z.s
noncomputable def VEnd (B:Base) (Q:PostV) (z:Z) (v:Value):Prop:=∃ a,Vr B z a v/\Q a z.k z.σ
noncomputable def VsEnd (B:Base) (Q:PostV) (z:Z) (vs:List Value):Prop:=∃ as,Vrs B z as vs/\Q (.tup as) z.k z.σ
structure Sys where
 B:Base
 n:Nat
 cw:AV->List AV->Nat->Store->PostV->PostV->Prop
structure Ar where
 A:Around
 fs:List Env
 env:Env
 vars:Vars
structure Ctx (Y:Sys) (ns:Names) (c:Ar) (z:Z):Prop where
 cx:CxZ Y.B c.A c.fs Y.n z
 rep:Rep Y.B z
 fr:FrZ Y.B c.env ns c.vars z
theorem Ctx.go {Y:Sys} {ns:Names} {c:Ar} {z z':Z} (K:Ctx Y ns c z) (g:Go Y.B none_ z z'):Ctx Y ns c z':=⟨K.cx.go g,g.rep,K.fr.go g⟩
noncomputable def EvOk (Y:Sys) (ns:Names) (e0:Expr) (e:E):Prop:=∀ (c:Ar) (z:Z) (Q X:PostV),evW Y.cw e c.vars z.k z.σ Q X->Ctx Y ns c z->Runs Y.B c.A z (eval e0 c.env) (VEnd Y.B Q) X
section
variable {B:Base} {A:Around} {z:Z} {α β:Type} {X:PostV}
theorem Runs.pure {a:α} {Qa:Z->α->Prop} (R:Rep B z) (h:Qa z a):Runs B A z (Pure.pure a:Sem α) Qa X:=fun uu uu hQ uu=>nF1 (hQ z a (Go.refl R) h)
theorem Runs.wp {t t':Sem α} {Qa:Z->α->Prop} (h:Runs B A z t Qa X) (ht:∀ Qc E,wpAny (model B.prog B.w) A t Qc E z.s->wpAny (model B.prog B.w) A t' Qc E z.s):Runs B A z t' Qa X:=fun Qc E hQ hX=>ht Qc E (h Qc E hQ hX)
theorem Runs.standAt {p:Pos} {t:Sem α} {Qa:Z->α->Prop} (h:Runs B A z t Qa X):Runs B A z (standAt p >>= fun uu=>t) Qa X:=h.wp fun uu uu x=>nE1 (wpAny_standAt x)
theorem Runs.holding {vs:List Value} {t:Sem α} {Qa:Z->α->Prop} (h:Runs B A z t Qa X):Runs B A z (holding vs t) Qa X:=h.wp fun uu uu x=>nG1 x
theorem Runs.ends {Qc:α->Shared->Prop} {E:Value->Shared->Prop} {z':Z} {t:Sem α} {Qa:Z->α->Prop} (h:Runs B A z' t Qa X) (g:Go B none_ z z') (hQ:∀ z' a,Go B none_ z z'->Qa z' a->Qc a z'.s) (hX:∀ z' a e,Go B none_ z z'->ExcR B z.N z' a e->X a z'.k z'.σ->E (.ref e) z'.s):wpAny (model B.prog B.w) A t Qc E z'.s :=
 h Qc E (fun z'' a g'=>hQ z'' a (g.then g')) fun z'' a e g' x=>hX z'' a e (g.then g') (x.older g.size)
theorem Runs.bind {t:Sem α} {f:α->Sem β} {Qa:Z->α->Prop} {Qb:Z->β->Prop} (h:Runs B A z t Qa X) (hf:∀ z' a,Go B none_ z z'->Qa z' a->Runs B A z' (f a) Qb X):Runs B A z (t >>= f) Qb X:=fun Qc E hQ hX =>
 nE1 (h _ E (fun z' a g q=>(hf z' a g q).ends g hQ hX) hX)
theorem Runs.bindV {t:Sem Value} {f:Value->Sem β} {Q:PostV} {Qb:Z->β->Prop} (h:Runs B A z t (VEnd B Q) X) (hf:∀ z' x v,Go B none_ z z'->Vr B z' x v->Q x z'.k z'.σ->Runs B A z' (f v) Qb X):Runs B A z (t >>= f) Qb X :=
 h.bind fun z' v g q=>q.elim fun x q=>hf z' x v g q.1 q.2
theorem Runs.bindVs {t:Sem (List Value)} {f:List Value->Sem β} {Q:PostV} {Qb:Z->β->Prop} (h:Runs B A z t (VsEnd B Q) X) (hf:∀ z' x v,Go B none_ z z'->Vrs B z' x v->Q (.tup x) z'.k z'.σ->Runs B A z' (f v) Qb X):Runs B A z (t >>= f) Qb X :=
 h.bind fun z' v g q=>q.elim fun x q=>hf z' x v g q.1 q.2
theorem Runs.val {t:Sem α} {Qa:Z->α->Prop} (R:Rep B z) (h:∀ (Qc:α->Shared->Prop) E,(∀ tk a,Qa (z.put z.s.heap tk) a->Qc a (z.put z.s.heap tk).s)->wpAny (model B.prog B.w) A t Qc E z.s):Runs B A z t Qa X :=
 fun Qc E hQ uu=>h Qc E fun tk a q=>hQ (z.put z.s.heap tk) a (Go.tok R tk) q
theorem Runs.ret {t:Sem Value} {Q:PostV} {a:AV} (R:Rep B z) (hq:Q a z.k z.σ) (h:∀ (Qc:Value->Shared->Prop) E,(∀ tk v,Vr B z a v->Qc v (z.put z.s.heap tk).s)->wpAny (model B.prog B.w) A t Qc E z.s):Runs B A z t (VEnd B Q) X :=
 Runs.val R fun Qc E hQ=>h Qc E fun tk v hv=>hQ tk v ⟨a,hv,hq⟩
end
section
variable {Y:Sys} {ns:Names} {p:Pos}
theorem const_val {B:Base} {A:Around} {z:Z} {c:Const} {P:AV->Prop} {env:Env} {kk:Nat} {Q E:Value->Shared->Prop} (h:c.casesOn (P .none) (fun b=>P (.bool b)) (fun i=>P (.int i)) f1 f2 (fun s=>P (.str s)) (fun b=>P (.bytes b)) False) (hQ:∀ tk a v,P a->Vr B z a v->Q v (z.put z.s.heap tk).s):wpAny (model B.prog B.w) A (eval (.Constant c kk p) env) Q E z.s:=by
 cases c with
 | none=>exact wpAny_Constant_none (hQ z.s.toks _ _ h rfl)
 | bool b=>exact wpAny_Constant_bool (hQ z.s.toks _ _ h rfl)
 | int i=>exact wpAny_Constant_int (hQ (z.s.toks+1) _ _ h ⟨_,rfl⟩)
 | str s=>exact wpAny_Constant_str (hQ (z.s.toks+1) _ _ h ⟨_,rfl⟩)
 | bytes b=>exact fun uu uu uu=>hQ (z.s.toks+1) _ _ h ⟨_,rfl⟩
 | _=>exact h.elim
theorem ev_const {c:Const} {kk:Nat}:EvOk Y ns (.Constant c kk p) (.cst c):=fun d z Q X hw K=>Runs.val K.rep fun Qc E hQ=>const_val (P:=fun a=>Q a z.k z.σ) hw fun tk a v h hv=>hQ tk v ⟨a,hv,h⟩
theorem ev_loc {x:Str} {i:Nat} (hi:atK ns i x isAny=true) (hs:special x=false):EvOk Y ns (.Name x p) (.loc i):=fun d z Q X hw K=>Runs.val K.rep fun Qc E hQ =>
 okE hw fun o hv hw=>okE hw fun a ha hw=>atK_e hi fun k hk q=>wpAny_Name (load_slot K.rep K.fr hk q (hv.trans (congrArg some ha)) (fun v hv'=>hQ z.s.toks v ⟨a,hv',hw⟩) (Bool.or_eq_false_iff.mp hs).2) (Bool.or_eq_false_iff.mp hs).1
structure GlobFacts (B:Base):Prop where
 mg:∃ mg mb,B.hb.Ns mainGlobals mg/\B.hb.Ns builtinsNs mb/\∀ i,i < 74->∃ v,(mg (gname i)=some v∨(mg (gname i)=none/\mb (gname i)=some v))/\VR B.P B.hb (fun uu=>none) (gval i) v
theorem load_glb {B:Base} {A:Around} {z:Z} {env:Env} {vars:Vars} {x:Str} {i:Nat} {Q E:Value->Shared->Prop} (G:GlobFacts B) (R:Rep B z) (F:FrZ B env ns vars z) (h1:isGlb ns x=true) (hi:i < 74) (hx:gname i=x) (hs:special x=false) (hQ:∀ v,Vr B z (gval i) v->Q v z.s):wpAny (model B.prog B.w) A (eval (.Name x p) env) Q E z.s:=by
 refine wpAny_Name ?_ (Bool.or_eq_false_iff.mp hs).1
 refine eX1 (lookup_idx (eq_of_beq h1)) fun j hj=>?_
 have hk:env.kindOf x=some .globalImplicit:=(F.kinds j x _ hj).resolve_right fun q=>nomatch q.1
 have hblk:env.blockKind=.function:=by unfold Env.blockKind;rw [F.kind];rfl
 have e:loadName env x=loadGlobal env x:=by
  unfold loadName
  rw [hblk,hk,F.kind]
  rfl
 rw [e]
 refine eX2 G.mg fun mg mb qA1=>eD3 qA1 fun g1 g2 g3=>?_
 refine eX1 (g3 i hi) fun v qA2=>eD2 qA2 fun hv hr=>?_
 rw [hx] at hv
 have keep:∀ b o,B.hb.get? b=some o->z.s.heap.get? b=some o:=fun b o e=>R.stays b o (R.base b o e)
 have fin:Q v z.s:=hQ v (vr_mono R.base (fun uu uu (e:(none:Option (Addr×Option Addr))=_)=>nomatch e) hr)
 unfold loadGlobal
 rw [F.glob,F.blt]
 refine nE1 (wpAny_nsGet (g1.keeps keep) ?_)
 rcases hv with hv | ⟨hv,hv'⟩
 ·rw [hv];exact nF1 fin
 ·rw [hv]
  refine nE1 (wpAny_nsGet (g2.keeps keep) ?_)
  rw [hv'];exact nF1 fin
theorem ev_glb {x:Str} {i:Nat} (G:GlobFacts Y.B) (h1:isGlb ns x=true) (hi:i < 74) (hx:gname i=x) (hs:special x=false):EvOk Y ns (.Name x p) (.glb i):=fun d z Q X hw K=>Runs.val K.rep fun Qc E hQ=>load_glb G K.rep K.fr h1 hi hx hs fun v hv=>hQ z.s.toks v ⟨_,hv,hw⟩
theorem truth_val {B:Base} {A:Around} {z:Z} {a:AV} {v:Value} {Q:Bool->Prop} {Qc:Bool->Shared->Prop} {E:Value->Shared->Prop} (h:truthW a Q) (hv:Vr B z a v) (hQ:∀ b,Q b->Qc b z.s):wpAny (model B.prog B.w) A (truthy v) Qc E z.s :=
 vBool (C:=fun v=>wpAny (model B.prog B.w) A (truthy v) Qc E z.s) h hv fun b h=>wpAny_truthy_bool (hQ b h)
noncomputable def TrOk (Y:Sys) (ns:Names) (e0:Expr) (e:E):Prop:=∀ (c:Ar) (z:Z) (P:PostV) (Q:Bool->Nat->Store->Prop) (X:PostV),evW Y.cw e c.vars z.k z.σ P X->(∀ a k σ,P a k σ->truthW a fun b=>Q b k σ)->Ctx Y ns c z ->
 Runs Y.B c.A z (isTrue e0 c.env (eval e0 c.env)) (fun z' b=>Q b z'.k z'.σ) X
theorem truth_imp {a:AV} {F G:Bool->Prop} (h:truthW a F) (f:∀ b,a=.bool b->F b->G b):truthW a G:=boolA (C:=fun a=>(∀ b,a=.bool b->F b->G b)->truthW a G) h (fun b h f=>f b rfl h) f
theorem Runs.truth {B:Base} {A:Around} {z:Z} {a:AV} {v:Value} {Q:Bool->Nat->Store->Prop} {X:PostV} (R:Rep B z) (h:truthW a fun b=>Q b z.k z.σ) (hv:Vr B z a v):Runs B A z (truthy v) (fun z' b=>Q b z'.k z'.σ) X :=
 fun Qc E hQ uu=>truth_val h hv fun b hq=>hQ z b (Go.refl R) hq
theorem tr_plain {e0:Expr} {e:E} (he:EvOk Y ns e0 e) (ht:∀ env whole,isTrue e0 env whole=(do let v <- whole;PySem.standAt e0.pos;PySem.holding [v] (truthy v))):TrOk Y ns e0 e:=fun c z P Q X h hP K=>by
 rw [ht]
 exact (he c z P X h K).bindV fun z₁ a v g₁ ha hb=>Runs.standAt (Runs.holding (Runs.truth g₁.rep (hP _ _ _ hb) ha))
theorem ev_not {e0:Expr} {e:E} (he:EvOk Y ns e0 e):EvOk Y ns (.UnaryOp .Not e0 p) (.not e):=fun c z Q X hw K =>
 (he c z _ X hw K).bindV fun z₁ a v g₁ ha hb=>Runs.standAt (Runs.holding fun Qc E hQ uu=>not_value (truth_val hb ha fun b hq=>hQ z₁ _ (Go.refl g₁.rep) ⟨.bool (!b),rfl,hq⟩))
theorem tr_not {e0:Expr} {e:E} (he:TrOk Y ns e0 e):TrOk Y ns (.UnaryOp .Not e0 p) (.not e):=fun c z P Q X hw hP K =>
 (he c z _ (fun b=>Q (!b)) X hw (fun a k σ h=>truth_imp h fun b uu h=>hP (.bool (!b)) k σ h) K).bind fun z₁ b g₁ hb=>Runs.pure (a:=!b) g₁.rep hb
theorem ev_ife {t0 a0 b0:Expr} {t a b:E} (ht:TrOk Y ns t0 t) (ha:EvOk Y ns a0 a) (hb:EvOk Y ns b0 b):EvOk Y ns (.IfExp t0 a0 b0 p) (.ife t a b):=fun d z Q X hw K=>by
 refine Runs.bind (f:=fun c=>if c=true then eval a0 d.env else eval b0 d.env) (ht d z _ (fun c k σ=>cond c (evW Y.cw a d.vars k σ Q X) (evW Y.cw b d.vars k σ Q X)) X hw (fun uu uu uu h=>h) K) fun z₁ c g₁ hc=>?_
 cases c with
 | true=>exact ha d z₁ Q X hc (K.go g₁)
 | false=>exact hb d z₁ Q X hc (K.go g₁)
theorem tr_ife {t0 a0 b0:Expr} {t a b:E} (ht:TrOk Y ns t0 t) (ha:TrOk Y ns a0 a) (hb:TrOk Y ns b0 b):TrOk Y ns (.IfExp t0 a0 b0 p) (.ife t a b):=fun d z P Q X hw hP K=>by
 refine Runs.bind (f:=fun c=>if c=true then isTrue a0 d.env (eval a0 d.env) else isTrue b0 d.env (eval b0 d.env)) (ht d z _ (fun c k σ=>cond c (evW Y.cw a d.vars k σ P X) (evW Y.cw b d.vars k σ P X)) X hw (fun uu uu uu h=>h) K) fun z₁ c g₁ hc=>?_
 cases c with
 | true=>exact ha d z₁ P Q X hc hP (K.go g₁)
 | false=>exact hb d z₁ P Q X hc hP (K.go g₁)
noncomputable def EvsOk (Y:Sys) (ns:Names) (es0:List Expr) (es:E):Prop:=∀ (c:Ar) (z:Z) (Q X:PostV),evW Y.cw es c.vars z.k z.σ Q X->Ctx Y ns c z->∀ p,Runs Y.B c.A z (spliced (backTo p (starEach es0 c.env))) (VsEnd Y.B Q) X
theorem evs_nil:EvsOk Y ns [] .nil:=fun c z Q X hw K p Qc E hQ hX=>wpAny_items_nil (hQ z [] (Go.refl K.rep) ⟨[],trivial,hw⟩)
theorem evs_cons {e0:Expr} {es0:List Expr} {e es:E} (he:EvOk Y ns e0 e) (hes:EvsOk Y ns es0 es) (hs:∀ env,starEach (e0 :: es0) env=(false,eval e0 env) :: starEach es0 env):EvsOk Y ns (e0 :: es0) (.cons e es):=fun c z Q X hw K p Qc E hQ hX =>
 wpAny_items_cons (he c z _ X hw K _ E (fun z₁ v g₁ q=>q.elim fun a q=>hes c z₁ _ X q.2 (K.go g₁) p _ E (fun z₂ vs g₂ q'=>q'.elim fun as q'=>hQ z₂ (v :: vs) (g₁.then g₂) ⟨a :: as,⟨g₂.vr q.1,q'.1⟩,q'.2⟩) fun z' a e g x=>hX z' a e (g₁.then g) (x.older g₁.size)) hX) (hs c.env)
end
end
section
theorem vrs_length {P:Places} {g:Heap} {ρ:Rho}:∀ {as:List AV} {vs:List Value},VRs P g ρ as vs->as.length=vs.length
 | [],_,h=>nilE (C:=fun l=>0=l.length) h fun uu=>rfl
 | _ :: as,_,h=>consE (C:=fun l=>as.length+1=l.length) h fun uu uu h=>congrArg (·+1) (vrs_length h.2)
theorem line_ok {n:Nat} (h:n < 1000):n<=sizeLine:=nA (nU h) (by decide)
section
variable {B:Base} {A:Around} {z:Z} {Q X:PostV}
theorem Runs.froz {t:Sem Value} {o:Obj} {a:AV} (R:Rep B z) (hf:o.isFreed=false) (nf:NF o) (hq:Q a z.k z.σ) (hv:∀ g':Heap,(∀ b o,z.g.get? b=some o->g'.get? b=some o)->g'.get? z.N=some o->VR B.P g' z.ρ a (.ref z.N))
  (ht:∀ (Qc:Value->Shared->Prop) E,(∀ tk,Qc (.ref z.N) (z.put (z.s.heap.push o) tk).s)->wpAny (model B.prog B.w) A t Qc E z.s):Runs B A z t (VEnd B Q) X:=fun Qc E hQ uu =>
 ht Qc E fun tk=>(Go.frozen R o hf nf tk).elim fun g' q=>hQ ((z.put (z.s.heap.push o) tk).gr g') (.ref z.N) q.1 ⟨a,hv g' q.1.gext q.2,hq⟩
theorem rowVr {P:Places} {g g':Heap} {ρ:Rho} {T:String} {as:List AV} {vs:List Value} {N:Addr} (h:VRs P g ρ as vs) (hg:∀ b o,g.get? b=some o->g'.get? b=some o) (e:g'.get? N=some (rowObj T vs.toArray 0)):RowAt g' T (VRs P g' ρ as) (.ref N) :=
 ⟨N,_,0,rfl,e,vrs_mono hg (fun uu uu e=>e) h⟩
theorem Runs.mkTup {t:Sem Value} {as:List AV} {vs:List Value} (R:Rep B z) (h:Vrs B z as vs) (hq:Q (.tup as) z.k z.σ)
  (ht:∀ (Qc:Value->Shared->Prop) E,(∀ tk,Qc (.ref z.N) (z.put (z.s.heap.push (rowObj "tuple" vs.toArray 0)) tk).s)->wpAny (model B.prog B.w) A t Qc E z.s):Runs B A z t (VEnd B Q) X :=
 Runs.froz R rfl (nf_of rfl rfl) hq (fun uu hg e=>rowVr h hg e) ht
theorem Runs.mkRow {t:Sem Value} {m:Bool} {as:List AV} {vs:List Value} (R:Rep B z) (h:Vrs B z as vs) (hq:mkList m as z.k z.σ Q)
  (ht:∀ (Qc:Value->Shared->Prop) E,(∀ tk,Qc (.ref z.N) (z.put (z.s.heap.push (rowObj "list" vs.toArray 0)) tk).s)->wpAny (model B.prog B.w) A t Qc E z.s):Runs B A z t (VEnd B Q) X:=by
 cases m with
 | false=>exact Runs.froz R rfl (nf_of rfl rfl) hq (fun uu hg e=>rowVr h hg e) ht
 | true=>exact fun Qc E hQ uu=>ht Qc E fun tk=>hQ ((z.put (z.s.heap.push (rowObj "list" vs.toArray 0)) tk).more (z.N,none) (.list as)) (.ref z.N) (Go.made R (p:=(z.N,none)) (c:=.list as) (fun b o e=>Heap.get?_push_of_some _ e) (push_le _ _) (fun a ha=>nG (at1 ha).symm) tk
   ⟨rfl,_,0,Heap.get?_push_size _ rfl,h⟩) ⟨.cell z.k,⟨_,if_pos rfl,rfl⟩,hq⟩
theorem row_size {as:List AV} {vs:List Value} (h:Vrs B z as vs) (hl:as.length < 1000):vs.toArray.size<=sizeLine:=line_ok (vrs_length h▸hl:vs.length < 1000)
end
section
variable {Y:Sys} {ns:Names} {p:Pos}
theorem ev_tup {es0:List Expr} {es:E} {kk:Nat} (hes:EvsOk Y ns es0 es):EvOk Y ns (.Tuple es0 kk p) (.tup es):=fun c z Q X hw K =>
 Runs.standAt ((hes c z _ X hw K p).bindVs fun z₁ as vs g₁ has h=>fewE h fun hl h=>Runs.mkTup g₁.rep has h fun Qc E hQ=>wpAny_newObj_type (hQ z₁.s.toks) (row_size has hl))
theorem ev_lst {m:Bool} {es0:List Expr} {es:E} (hes:EvsOk Y ns es0 es):EvOk Y ns (.List es0 p) (.lst m es):=fun c z Q X hw K =>
 Runs.standAt ((hes c z _ X hw K p).bindVs fun z₁ as vs g₁ has h=>fewE h fun hl h=>Runs.mkRow g₁.rep has h fun Qc E hQ=>wpAny_newObj_type (hQ z₁.s.toks) (row_size has hl))
noncomputable def AllOk (Y:Sys) (ns:Names):List Expr->E->Prop
 | [],es=>es=.nil
 | e0 :: r,es=>∃ e es',es=.cons e es'/\EvOk Y ns e0 e/\TrOk Y ns e0 e/\isStarred e0=false/\AllOk Y ns r es'
theorem star_cons {e:Expr} {es:List Expr} {env:Env} (h:isStarred e=false):starEach (e :: es) env=(false,eval e env) :: starEach es env:=by
 cases e <;> first | rfl | exact ff h.symm
theorem AllOk.evs:∀ {es0:List Expr} {es:E},AllOk Y ns es0 es->EvsOk Y ns es0 es
 | [],_,h=>h▸evs_nil
 | e0 :: r,_,h=>h.elim fun uu h=>h.elim fun uu h=>h.1▸evs_cons h.2.1 h.2.2.2.2.evs fun uu=>star_cons h.2.2.2.1
theorem AllOk.star {env:Env} {p:Pos}:∀ {es0:List Expr} {es:E},AllOk Y ns es0 es->(backTo p (starEach es0 env)).any (·.1)=false
 | [],_,_=>rfl
 | e0 :: r,_,h=>h.elim fun uu h=>h.elim fun uu h=>by
  rw [star_cons h.2.2.2.1]
  exact (Bool.false_or _).trans (AllOk.star (env:=env) (p:=p) h.2.2.2.2)
noncomputable def TbopOk (Y:Sys) (ns:Names) (es0:List Expr) (es:E):Prop:=∀ (op:BoolOp) (c:Ar) (z:Z) (P:PostV) (Q:Bool->Nat->Store->Prop) (X:PostV),bopW Y.cw es op c.vars z.k z.σ P X->(∀ a k σ,P a k σ->truthW a fun b=>Q b k σ)->Ctx Y ns c z->(es0=[]->op=.And) ->
 Runs Y.B c.A z (allTrue op es0 c.env) (fun z' b=>Q b z'.k z'.σ) X
theorem AllOk.end:∀ {r:List Expr} {es:E},AllOk Y ns r es->(r=[]/\es=.nil)∨(r≠[]/\isNil es=false)
 | [],_,h=>.inl ⟨rfl,h⟩
 | _ :: _,_,h=>.inr ⟨nofun,h.elim fun uu q=>q.elim fun uu q=>q.1▸rfl⟩
theorem AllOk.tbop:∀ {es0:List Expr} {es:E},AllOk Y ns es0 es->TbopOk Y ns es0 es
 | [],_,h=>h▸fun op c z P Q X hw hP K he=>he rfl▸Runs.pure (a:=true) K.rep (hP _ _ _ hw)
 | e0 :: r,_,h=>h.elim fun e h=>h.elim fun es' h=>h.1▸fun op c z P Q X hw hP K uu Qc E hQ hX=>by
  have hw:evW Y.cw e c.vars z.k z.σ (fun a k σ=>cond (isNil es') (P a k σ) (truthW a fun b=>bopSel op b (P a k σ) (bopW Y.cw es' op c.vars k σ P X))) X:=hw
  rcases h.2.2.2.2.end with ⟨rfl,rfl⟩ | ⟨hr,hn⟩
  ·have:=h.2.2.1 c z _ Q X hw hP K
   cases op
   ·exact wpAny_allTrue_And_cons (this _ E (fun z₁ b g q=>by cases b with | true=>exact nF1 (hQ z₁ true g q) | false=>exact hQ z₁ false g q) hX)
   ·exact wpAny_allTrue_Or_cons (this _ E (fun z₁ b g q=>by cases b with | true=>exact hQ z₁ true g q | false=>exact nF1 (hQ z₁ false g q)) hX)
  ·rw [hn] at hw
   have:=h.2.2.1 c z _ (fun b k σ=>bopSel op b (Q b k σ) (bopW Y.cw es' op c.vars k σ P X)) X hw (fun a k σ h=>truth_imp h fun b e h=>by subst e;cases op <;> cases b <;> first | exact h | exact hP _ _ _ h) K
   have rest:∀ z₁,Go Y.B none_ z z₁->bopW Y.cw es' op c.vars z₁.k z₁.σ P X->wpAny (model Y.B.prog Y.B.w) c.A (allTrue op r c.env) Qc E z₁.s:=fun z₁ g q=>(h.2.2.2.2.tbop op c z₁ P Q X q hP (K.go g) fun e=>absurd e hr).ends g hQ hX
   cases op
   ·exact wpAny_allTrue_And_cons (this _ E (fun z₁ b g q=>by cases b with | true=>exact rest z₁ g q | false=>exact hQ z₁ false g q) hX)
   ·exact wpAny_allTrue_Or_cons (this _ E (fun z₁ b g q=>by cases b with | true=>exact hQ z₁ true g q | false=>exact rest z₁ g q) hX)
noncomputable def BopOk (Y:Sys) (ns:Names) (es0:List Expr) (es:E):Prop:=∀ (op:BoolOp) (p:Pos) (c:Ar) (z:Z) (Q X:PostV),bopW Y.cw es op c.vars z.k z.σ Q X->Ctx Y ns c z->es0≠[]->Runs Y.B c.A z (boolOp p op (evalEach es0 c.env)) (VEnd Y.B Q) X
theorem AllOk.bop:∀ {es0:List Expr} {es:E},AllOk Y ns es0 es->BopOk Y ns es0 es
 | [],_,_=>fun uu uu uu uu uu uu uu uu h=>absurd rfl h
 | [e0],_,h=>h.elim fun e h=>h.elim fun es' h=>h.1▸(h.2.2.2.2:es'=.nil)▸fun op p c z Q X hw K uu=>h.2.1 c z Q X hw K
 | e0 :: e1 :: r,_,h=>h.elim fun e h=>h.elim fun es' h=>h.1▸fun op p c z Q X hw K uu=>by
  have hw:evW Y.cw e c.vars z.k z.σ (fun a k σ=>cond (isNil es') (Q a k σ) (truthW a fun b=>bopSel op b (Q a k σ) (bopW Y.cw es' op c.vars k σ Q X))) X:=hw
  rw [show isNil es'=false from h.2.2.2.2.elim fun uu q=>q.elim fun uu q=>q.1▸rfl] at hw
  show Runs Y.B c.A z (eval e0 c.env >>= fun v=>PySem.standAt p >>= fun uu=>PySem.holding [v] (truthy v) >>= fun t=>match op,t with
   | .And,false | .Or,true=>Pure.pure v
   | _,_=>boolOp p op (evalEach (e1 :: r) c.env)) (VEnd Y.B Q) X
  refine (h.2.1 c z _ X hw K).bindV fun z₁ a v g₁ ha hb=>Runs.standAt (Runs.bind (Qa:=fun z' t=>Vr Y.B z' a v/\bopSel op t (Q a z'.k z'.σ) (bopW Y.cw es' op c.vars z'.k z'.σ Q X)) (Runs.holding fun Qc E hQ uu=>truth_val hb ha fun b hq=>hQ z₁ b (Go.refl g₁.rep) ⟨ha,hq⟩) fun z₂ t g₂ q=>?_)
  have rest:=h.2.2.2.2.bop op p c z₂ Q X
  have done:Q a z₂.k z₂.σ->Runs Y.B c.A z₂ (Pure.pure v) (VEnd Y.B Q) X:=fun hq=>Runs.pure g₂.rep ⟨a,q.1,hq⟩
  cases op <;> cases t <;> first | exact rest q.2 ((K.go g₁).go g₂) nofun | exact done q.2
theorem ev_bop {op:BoolOp} {es0:List Expr} {es:E} (h:AllOk Y ns es0 es) (hn:lNil es0=false):EvOk Y ns (.BoolOp op es0 p) (.bop op es)/\TrOk Y ns (.BoolOp op es0 p) (.bop op es) :=
 have ne:es0≠[]:=fun e=>ff (hn.symm.trans (e▸rfl))
 ⟨fun c z Q X hw K=>h.bop op p c z Q X hw K ne,fun c z P Q X hw hP K=>h.tbop op c z P Q X hw hP K fun e=>absurd e ne⟩
end
end
section
open PySem.SeqAt PySem.MeetsSeq
section
variable {P:Places} {g:Heap} {ρ:Rho} {a b:AV} {v u:Value}
theorem kNone {C:AV->Value->Prop} (h:isK 0 a=true) (hv:VR P g ρ a v) (f:C .none .none):C a v:=@AV.casesOn (fun a=>isK 0 a=true->VR P g ρ a v->C a v) a (fun uu hv=>hv▸f) fz1 fz1 fz1 fz1 fz1 fz1 fz1 fz1 fz1 fz1 fz1 fz2 fz2 fz3 fz1 h hv
theorem kBool {C:AV->Value->Prop} (h:isK 1 a=true) (hv:VR P g ρ a v) (f:∀ i,C (.bool i) (.bool i)):C a v:=@AV.casesOn (fun a=>isK 1 a=true->VR P g ρ a v->C a v) a fz0 (fun uu uu hv=>hv▸f _) fz1 fz1 fz1 fz1 fz1 fz1 fz1 fz1 fz1 fz1 fz2 fz2 fz3 fz1 h hv
theorem kInt {C:AV->Value->Prop} (h:isK 2 a=true) (hv:VR P g ρ a v) (f:∀ i t,C (.int i) (.int i t)):C a v:=@AV.casesOn (fun a=>isK 2 a=true->VR P g ρ a v->C a v) a fz0 fz1 (fun uu uu hv=>hv.elim fun uu e=>e▸f _ _) fz1 fz1 fz1 fz1 fz1 fz1 fz1 fz1 fz1 fz2 fz2 fz3 fz1 h hv
theorem kStr {C:AV->Value->Prop} (h:isK 3 a=true) (hv:VR P g ρ a v) (f:∀ i t,C (.str i) (.str i t)):C a v:=@AV.casesOn (fun a=>isK 3 a=true->VR P g ρ a v->C a v) a fz0 fz1 fz1 (fun uu uu hv=>hv.elim fun uu e=>e▸f _ _) fz1 fz1 fz1 fz1 fz1 fz1 fz1 fz1 fz2 fz2 fz3 fz1 h hv
theorem kBytes {C:AV->Value->Prop} (h:isK 4 a=true) (hv:VR P g ρ a v) (f:∀ i t,C (.bytes i) (.bytes i.toArray t)):C a v:=@AV.casesOn (fun a=>isK 4 a=true->VR P g ρ a v->C a v) a fz0 fz1 fz1 fz1 (fun uu uu hv=>hv.elim fun uu e=>e▸f _ _) fz1 fz1 fz1 fz1 fz1 fz1 fz1 fz2 fz2 fz3 fz1 h hv
theorem kTup {C:AV->Prop} (h:isK 5 a=true) (f:∀ i,C (.tup i)):C a:=@AV.casesOn (fun a=>isK 5 a=true->C a) a fz0 fz1 fz1 fz1 fz1 fz1 fz1 fz1 fz1 fz1 (fun i uu=>f i) fz1 fz2 fz2 fz3 fz1 h
theorem kLst {C:AV->Prop} (h:isK 6 a=true) (f:∀ i,C (.lst i)):C a:=@AV.casesOn (fun a=>isK 6 a=true->C a) a fz0 fz1 fz1 fz1 fz1 fz1 fz1 fz1 fz1 fz1 fz1 (fun i uu=>f i) fz2 fz2 fz3 fz1 h
end
section
variable {A:Around} {s:Shared}
theorem rcne_bytes (b c:List UInt8) (t u:Tok):RcNeAt A s (.bytes b.toArray t) (.bytes c.toArray u) (!decide (b=c)):=fun uu uu uu Q hq=>ne_bytes (show Q (.bool (b.toArray.toList != c.toArray.toList)) s from (show (b != c)=!decide (b=c) from congrArg not (beqd b c))▸hq)
theorem rc_bytes (b c:List UInt8) (t u:Tok):RcAt A s (.bytes b.toArray t) (.bytes c.toArray u) (decide (b=c)):=fun uu uu uu Q hq=>eq_bytes (show Q (.bool (b.toArray.toList==c.toArray.toList)) s from beqd b c▸hq)
theorem bytes_ne_slot_refl:Slot "bytes" (cmpInfo .NotEq).2.2 "bytes.__ne__":=FB.slot_bytes_ne
theorem bytes_ne_int (b:Array UInt8) (t:Tok) (i:Int) (u:Tok):Gives (Builtin.«bytes.__ne__» ⟨[.bytes b t,.int i u],[]⟩) (.val (Value.notImplemented)) :=
 .of_wp fun M A E s Q h=>by obtain ⟨hp,g,d,tk,os⟩:=s;have f1:=sub_int_bytes;wp_walk;exact ⟨_,rfl,h⟩
theorem int_ne_bytes (b:Array UInt8) (t:Tok) (i:Int) (u:Tok):Gives (Builtin.«int.__ne__» ⟨[.int i u,.bytes b t],[]⟩) (.val (Value.notImplemented)) :=
 .of_wp fun M A E s Q h=>by obtain ⟨hp,g,d,tk,os⟩:=s;wp_walk;exact ⟨_,rfl,h⟩
theorem rcne_bytes_int (b:Array UInt8) (t:Tok) (i:Int) (u:Tok):RcNeAt A s (.bytes b t) (.int i u) true:=fun prog w E Q h =>
 rc_ne_decline_or (k:=false) (typeIs_bytes s b t) (typeIs_int s i u) (by decide) sub_int_bytes FB.slot_bytes_ne F.slot_int_ne_refl
  (fun uu hq=>call_gives FB.slot_bytes_ne (typeIs_bytes s b t) FB.entry_bytes_ne (FB.args_bytes_ne_2 _ _) (bytes_ne_int b t i u) hq)
  (fun uu hq=>call_gives F.slot_int_ne_refl (typeIs_int s i u) F.entry_int_ne (F.args_int_ne_2 _ _) (int_ne_bytes b t i u) hq)
  (fun uu hq=>wpAny_of_eq (rfl:isSame (.bytes b t) (.int i u)=pure false) hq) (.inl rfl) h
theorem rcne_int_bytes (b:Array UInt8) (t:Tok) (i:Int) (u:Tok):RcNeAt A s (.int i u) (.bytes b t) true:=fun prog w E Q h =>
 rc_ne_decline_or (k:=false) (typeIs_int s i u) (typeIs_bytes s b t) (by decide) sub_bytes_int F.slot_int_ne bytes_ne_slot_refl
  (fun uu hq=>call_gives F.slot_int_ne (typeIs_int s i u) F.entry_int_ne (F.args_int_ne_2 _ _) (int_ne_bytes b t i u) hq)
  (fun uu hq=>call_gives bytes_ne_slot_refl (typeIs_bytes s b t) FB.entry_bytes_ne (FB.args_bytes_ne_2 _ _) (bytes_ne_int b t i u) hq)
  (fun uu hq=>wpAny_of_eq (rfl:isSame (.int i u) (.bytes b t)=pure false) hq) (.inl rfl) h
end
structure EqAll (A:Around) (s:Shared) (v u:Value) (r:Bool):Prop where
 eq:EqAt A s v u r
 rc:RcAt A s v u r
 ne:RcNeAt A s v u (!r)
noncomputable def EqF (g:Heap) (n:Nat) (v u:Value) (r:Bool):Prop:=(∀ (A:Around) (s:Shared),(∀ b o,g.get? b=some o->s.heap.get? b=some o)->A.units+n < cLine->EqAll A s v u r)/\(v=u->r=true)
section
variable {P:Places} {g:Heap} {ρ:Rho}
theorem eq_flat {n:Nat} {a b:AV} {r:Bool} (h:eq0 a b=some r) {v u:Value} (h1:VR P g ρ a v) (h2:VR P g ρ b u):EqF g n v u r:=by
 skip
 refine condOr h (fun q e=>e▸band q fun q1 q2=>kNone (C:=fun uu v=>EqF g n v u true) q1 h1 (kNone (C:=fun uu u=>EqF g n .none u true) q2 h2 ⟨fun A s uu uu=>⟨.same _,.none_none,.none_none⟩,fun uu=>rfl⟩)) fun h=>?_
 refine condOr h (fun q e=>e▸?_) fun h=>condOr h (fun q e=>e▸?_) fun h=>condE h fun q e=>e▸?_
 ·rcases Bool.or_eq_true_iff.mp q with q | q
  ·rcases Bool.or_eq_true_iff.mp q with q | q
   ·exact band q fun q1 q2=>kNone (C:=fun uu v=>EqF g n v u false) q1 h1 (kInt (C:=fun uu u=>EqF g n .none u false) q2 h2 fun i t=>⟨fun A s uu uu=>⟨.none_int _ _,.none_int _ _,.none_int _ _⟩,nofun⟩)
   ·exact band q fun q1 q2=>kInt (C:=fun uu v=>EqF g n v u false) q1 h1 fun i t=>(kBytes (C:=fun uu u=>EqF g n (.int i t) u false) q2 h2 fun j w=>⟨fun A s uu uu=>⟨eq_int_bytes _ _ _ _,rc_int_bytes _ _ _ _,rcne_int_bytes _ _ _ _⟩,nofun⟩)
  ·exact band q fun q1 q2=>kBytes (C:=fun uu v=>EqF g n v u false) q1 h1 fun i t=>(kInt (C:=fun uu u=>EqF g n (.bytes _ t) u false) q2 h2 fun j w=>⟨fun A s uu uu=>⟨eq_bytes_int _ _ _ _,rc_bytes_int _ _ _ _,rcne_bytes_int _ _ _ _⟩,nofun⟩)
 ·refine band q fun q1 q2=>?_
  have k2:∀ {m},isK m a=true->isK m b=true:=fun {m} q=>(congrArg (fun k=>Nat.beq k m) (nE q1)).symm.trans q
  rcases Bool.or_eq_true_iff.mp q2 with q | q
  ·rcases Bool.or_eq_true_iff.mp q with q | q
   ·exact kInt (C:=fun a v=>EqF g n v u (ueq a b)) q h1 fun i t=>kInt (C:=fun b u=>EqF g n (.int i t) u (ueq (.int i) b)) (k2 q) h2 fun j w=>⟨fun A s uu uu=>⟨.int_int _ _ _ _,.int_int _ _ _ _,.int_int _ _ _ _⟩,fun e=>decide_eq_true (Value.int.inj e).1⟩
   ·exact kStr (C:=fun a v=>EqF g n v u (ueq a b)) q h1 fun i t=>kStr (C:=fun b u=>EqF g n (.str i t) u (ueq (.str i) b)) (k2 q) h2 fun j w=>⟨fun A s uu uu=>⟨.str_str _ _ _ _,.str_str _ _ _ _,.str_str _ _ _ _⟩,fun e=>decide_eq_true (Value.str.inj e).1⟩
  ·exact kBytes (C:=fun a v=>EqF g n v u (ueq a b)) q h1 fun i t=>kBytes (C:=fun b u=>EqF g n (.bytes _ t) u (ueq (.bytes i) b)) (k2 q) h2 fun j w=>⟨fun A s uu uu=>⟨eq_bytes_bytes _ _ _ _,rc_bytes _ _ _ _,rcne_bytes _ _ _ _⟩,fun e=>decide_eq_true (congrArg Array.toList (Value.bytes.inj e).1)⟩
 ·exact band q fun q1 q2=>kBool (C:=fun a v=>EqF g n v u (a.casesOn false (fun x=>b.casesOn false (fun y=>x==y) n1 n1 n1 n1 n1 n1 n1 n1 n1 n1 n2 n2 n3 n1) n1 n1 n1 n1 n1 n1 n1 n1 n1 n1 n2 n2 n3 n1)) q1 h1 fun i=>kBool (C:=fun b u=>EqF g n (.bool i) u (b.casesOn false (fun y=>i==y) n1 n1 n1 n1 n1 n1 n1 n1 n1 n1 n2 n2 n3 n1)) q2 h2 fun j =>
   ⟨fun A s uu uu=>⟨.bool_bool _ _,.bool_bool _ _,.bool_bool _ _⟩,fun e=>beq_iff_eq.mpr (Value.bool.inj e)⟩
theorem all_val {f:AV->AV->Option Bool} {F:Value->Value->Bool->Prop} (ih:∀ a b r,f a b=some r->∀ v u,VR P g ρ a v->VR P g ρ b u->F v u r):∀ {as bs:List AV} {r:Bool} {vs us:List Value},allEq f as bs=some r->VRs P g ρ as vs->VRs P g ρ bs us ->
  vs.length=us.length/\∃ e:Nat->Bool,r=(List.range vs.length).all e/\∀ (j:Nat) (q1:j < vs.length) (q2:j < us.length),F vs[j] us[j] (e j)
 | [],[],r,vs,us,h,h1,h2=>by cases vs <;> cases us <;> first | exact h1.elim | exact h2.elim | exact ⟨rfl,fun uu=>true,(oJ h).symm,fun j q=>absurd q (nW j)⟩
 | [],_ :: _,_,_,_,h,_,_=>nomatch h
 | _ :: _,[],_,_,_,h,_,_=>nomatch h
 | a :: as,b :: bs,r,vs,us,h,h1,h2=>by
  cases vs with
  | nil=>exact h1.elim
  | cons v vs =>
   cases us with
   | nil=>exact h2.elim
   | cons u us =>
    refine bindE h fun x hx h=>mapE h fun y hy e=>?_
    obtain ⟨hl,e',hr,he⟩:=all_val ih hy h1.2 h2.2
    refine ⟨congrArg (·+1) hl,fun j=>j.casesOn x e',?_,fun j=>j.casesOn (fun uu uu=>ih a b x hx v u h1.1 h2.1) fun j q1 q2=>he j (Nat.lt_of_succ_lt_succ q1) (Nat.lt_of_succ_lt_succ q2)⟩
    rw [List.length_cons,List.range_succ_eq_map,List.all_cons,List.all_map,<- e,hr]
    rfl
theorem eqall_refs {A:Around} {s:Shared} {x y:Addr} {r:Bool} (h1:RcAt A s (.ref x) (.ref y) r) (h2:RcNeAt A s (.ref x) (.ref y) (!r)) (hs:x=y->r=true):EqAll A s (.ref x) (.ref y) r:=by
 refine ⟨?_,h1,h2⟩
 by_cases q:x=y
 ·subst q;rw [hs rfl];exact .same _
 ·exact .of_refs q h1
theorem eq_val:∀ (n:Nat) (a b:AV) (r:Bool),eqA n a b=some r->∀ v u,VR P g ρ a v->VR P g ρ b u->EqF g n v u r
 | 0,a,b,r,h,v,u,h1,h2=>eq_flat h h1 h2
 | n+1,a,b,r,h,v,u,h1,h2=>by
  have rows:∀ {T:String} {as bs:List AV},allEq (eqA n) as bs=some r->∀ {x y:Addr} {its jts:Array Value} {k l:Nat},g.get? x=some (rowObj T its k)->g.get? y=some (rowObj T jts l)->VRs P g ρ as its.toList->VRs P g ρ bs jts.toList ->
    its.size=jts.size/\∃ e:Nat->Bool,r=(List.range its.size).all e/\(∀ (A:Around) (s:Shared),(∀ b o,g.get? b=some o->s.heap.get? b=some o)->A.units+(n+1) < cLine->∀ j (q1:j < its.size) (q2:j < jts.size),EqAt A.in1 s its[j] jts[j] (e j))/\(x=y->r=true):=fun {T as bs} h {x y its jts k l} e1 e2 r1 r2=>by
   obtain ⟨hl,e,hr,he⟩:=all_val (eq_val n) h r1 r2
   refine ⟨hl,e,hr,fun A s hg hu j q1 q2=>((he j q1 q2).1 A.in1 s hg ?_).eq,fun q=>?_⟩
   ·skip
    rw [Nat.add_assoc,Nat.add_comm 1];exact hu
   ·subst q
    cases e1.symm.trans e2
    rw [hr,nC1]
    exact fun j hj=>(he j (List.mem_range.mp hj) (List.mem_range.mp hj)).2 rfl
  have hu0:∀ {A:Around},A.units+(n+1) < cLine->A.units < cLine:=fun h=>nF (nP _ _) h
  cases qt:isK 5 a with
  | true =>
   refine kTup (C:=fun a=>eqA (n+1) a b=some r->VR P g ρ a v->EqF g (n+1) v u r) qt (fun as h h1=>?_) h h1
   cases b <;> first | exact nn h | skip
   rename_i bs _
   refine eX3 h1 fun x its k qA4=>eD3 qA4 fun eA4x3 e1 r1=>?_;obtain rfl:=eA4x3
   refine eX3 h2 fun y jts l qA5=>eD3 qA5 fun eA5x3 e2 r2=>?_;obtain rfl:=eA5x3
   obtain ⟨hl,e,hr,he,hs⟩:=rows (as:=as) (bs:=bs) h e1 e2 r1 r2
   have hm:((List.range (min its.size jts.size)).all e&&its.size==jts.size)=r:=by rw [hl,Nat.min_self,beq_self_eq_true,Bool.and_true,hr,hl]
   exact ⟨fun A s hg hu=>eqall_refs (hm▸RcAt.tuples ⟨_,hg _ _ e1,rfl,k,rfl⟩ ⟨_,hg _ _ e2,rfl,l,rfl⟩ (hu0 hu) (he A s hg hu)) (hm▸RcNeAt.tuples ⟨_,hg _ _ e1,rfl,k,rfl⟩ ⟨_,hg _ _ e2,rfl,l,rfl⟩ (hu0 hu) (he A s hg hu)) hs,fun q=>hs (Value.ref.inj q)⟩
  | false =>
   unfold eqA at h
   rw [qt] at h
   cases ql:isK 6 a with
   | false=>rw [ql] at h;exact eq_flat h h1 h2
   | true =>
    refine kLst (C:=fun a=>cond (isK 6 a) (oLst a fun xs=>oLst b fun ys=>cond (Nat.beq xs.length ys.length) (allEq (eqA n) xs ys) (some false)) (eq0 a b)=some r->VR P g ρ a v->EqF g (n+1) v u r) ql (fun as h h1=>?_) h h1
    cases b <;> first | exact nn h | skip
    rename_i bs _
    refine eX3 h1 fun x its k qA7=>eD3 qA7 fun eA7x3 e1 r1=>?_;obtain rfl:=eA7x3
    refine eX3 h2 fun y jts l qA8=>eD3 qA8 fun eA8x3 e2 r2=>?_;obtain rfl:=eA8x3
    have h:cond (Nat.beq as.length bs.length) (allEq (eqA n) as bs) (some false)=some r:=h
    have l1:as.length=its.size:=vrs_length r1
    have l2:bs.length=jts.size:=vrs_length r2
    cases q:Nat.beq as.length bs.length with
    | true =>
     rw [q] at h
     obtain ⟨hl,e,hr,he,hs⟩:=rows (as:=as) (bs:=bs) h e1 e2 r1 r2
     exact ⟨fun A s hg hu=>eqall_refs (hr▸RcAt.lists ⟨_,hg _ _ e1,rfl,k,rfl⟩ ⟨_,hg _ _ e2,rfl,l,rfl⟩ hl (hu0 hu) (he A s hg hu)) (hr▸RcNeAt.lists ⟨_,hg _ _ e1,rfl,k,rfl⟩ ⟨_,hg _ _ e2,rfl,l,rfl⟩ hl (hu0 hu) (he A s hg hu)) hs,fun q=>hs (Value.ref.inj q)⟩
    | false =>
     rw [q] at h
     obtain rfl:=oJ h
     have q':its.size≠jts.size:=fun e=>Nat.ne_of_beq_eq_false q (l1.trans (e.trans l2.symm))
     have hs:x=y->false=true:=fun e=>by subst e;cases e1.symm.trans e2;exact absurd rfl q'
     exact ⟨fun A s hg hu=>eqall_refs (RcAt.lists_lengths ⟨_,hg _ _ e1,rfl,k,rfl⟩ ⟨_,hg _ _ e2,rfl,l,rfl⟩ (bne_iff_ne.mpr q') (hu0 hu)) (RcNeAt.lists_lengths ⟨_,hg _ _ e1,rfl,k,rfl⟩ ⟨_,hg _ _ e2,rfl,l,rfl⟩ (bne_iff_ne.mpr q') (hu0 hu)) hs,fun q=>hs (Value.ref.inj q)⟩
end
end
section
open PySem.SeqAt PySem.MeetsSeq
section
variable {P:Places} {g:Heap} {ρ:Rho}
theorem uE {a:AV} {u:U} {C:AV->U->Prop} (h:uOf a=some u) (i:∀ x,C (.int x) (.i x)) (s:∀ x,C (.str x) (.s x)) (b:∀ x,C (.bytes x) (.b x)):C a u:=by
 cases a <;> first | exact nn h | exact oJ h▸i _ | exact oJ h▸s _ | exact oJ h▸b _
theorem isU_of {k:AV} {u:U} {v:Value} (hu:uOf k=some u) (hv:VR P g ρ k v):isU u v=true :=
 uE (C:=fun k u=>VR P g ρ k v->isU u v=true) hu (fun x e=>e.elim fun uu e=>e▸beq_self_eq_true x) (fun x e=>e.elim fun uu e=>e▸beq_self_eq_true x) (fun x e=>e.elim fun uu e=>e▸beq_self_eq_true x) hv
theorem ueq_u {k l:AV} {u t:U} (hk:uOf k=some u) (hl:uOf l=some t):ueq k l=decide (u=t) :=
 uE (C:=fun k u=>ueq k l=decide (u=t)) hk
  (fun x=>uE (C:=fun l t=>ueq (.int x) l=decide (U.i x=t)) hl (fun y=>(decU (f:=U.i) fun uu uu e=>U.i.inj e).symm) (fun y=>(decide_eq_false nofun).symm) fun y=>(decide_eq_false nofun).symm)
  (fun x=>uE (C:=fun l t=>ueq (.str x) l=decide (U.s x=t)) hl (fun y=>(decide_eq_false nofun).symm) (fun y=>(decU (f:=U.s) fun uu uu e=>U.s.inj e).symm) fun y=>(decide_eq_false nofun).symm)
  (fun x=>uE (C:=fun l t=>ueq (.bytes x) l=decide (U.b x=t)) hl (fun y=>(decide_eq_false nofun).symm) (fun y=>(decide_eq_false nofun).symm) fun y=>(decU (f:=U.b) fun uu uu e=>U.b.inj e).symm)
theorem keyEq_u {k l:AV} {u t:U} (hk:uOf k=some u) (hl:uOf l=some t):keyEq k l=decide (u=t) :=
 (uE (C:=fun k u=>keyEq k l=ueq k l) hk (fun uu=>rfl) (fun uu=>rfl) fun uu=>rfl).trans (ueq_u hk hl)
theorem keyEq_p {k l:AV} {u t:List U} (hk:kOf k u) (hl:kOf l t):keyEq k l=decide (u=t):=by
 refine eX4 hk fun x y u1 u2 qA0=>eD4 qA0 fun eA0x4 a1 a2 eA0x7=>?_;obtain rfl:=eA0x4;obtain rfl:=eA0x7
 refine eX4 hl fun x' y' t1 t2 qA1=>eD4 qA1 fun eA1x4 b1 b2 eA1x7=>?_;obtain rfl:=eA1x4;obtain rfl:=eA1x7
 show (ueq x x'&&(ueq y y'&&true))=_
 rw [ueq_u a1 b1,ueq_u a2 b2,Bool.and_true,<- Bool.decide_and]
 exact decide_eq_decide.mpr ⟨fun h=>h.1▸h.2▸rfl,fun h=>⟨(List.cons.inj h).1,(List.cons.inj (List.cons.inj h).2).1⟩⟩
theorem kk1_ge (x y:AV):3<=kk1 x y:=by unfold kk1;cases isK 3 x <;> cases (isK 4 y||isK 2 y) <;> decide
theorem kind_lt {k:AV} (h:keyKind k < 3):∃ u,uOf k=some u:=by
 cases k
 all_goals first | exact ⟨_,rfl⟩ | exact absurd h (by decide:¬ 4 < 3) | skip
 rename_i vs
 match vs with
 | []=>exact absurd h (by decide:¬ 4 < 3)
 | [x]=>exact absurd h (by decide:¬ 4 < 3)
 | [x,y]=>exact absurd h (nK.mpr (kk1_ge x y))
 | _ :: _ :: _ :: _=>exact absurd h (by decide:¬ 4 < 3)
theorem kU {a:AV} (h:isK 3 a=true∨isK 4 a=true∨isK 2 a=true):∃ u,uOf a=some u:=by
 cases a <;> first | exact ⟨_,rfl⟩ | exact (h.elim (fun h=>ff h) fun h=>h.elim (fun h=>ff h) fun h=>ff h)
theorem kind_3 {k:AV} (h:keyKind k=3):∃ u,kOf k u:=by
 cases k
 all_goals first | exact absurd h (Nat.ne_of_beq_eq_false (rfl:Nat.beq _ 3=false)) | skip
 rename_i vs
 match vs,h with
 | [],h=>exact absurd h (by decide:¬ 4=3)
 | [x],h=>exact absurd h (by decide:¬ 4=3)
 | [x,y],h =>
  have h:kk1 x y=3:=h
  unfold kk1 at h
  cases q1:isK 3 x with
  | false=>rw [q1] at h;exact absurd h (by decide:¬ 4=3)
  | true =>
   cases q2:(isK 4 y||isK 2 y) with
   | false=>rw [q1,q2] at h;exact absurd h (by decide:¬ 4=3)
   | true=>exact (kU (.inl q1)).elim fun u1 e1=>(kU (.inr (Bool.or_eq_true_iff.mp q2))).elim fun u2 e2=>⟨[u1,u2],x,y,u1,u2,rfl,e1,e2,rfl⟩
 | _ :: _ :: _ :: _,h=>exact absurd h (by decide:¬ 4=3)
noncomputable def GetR (P:Places) (g:Heap) (ρ:Rho) (o:Option AV) (w:Option Value):Prop:=o.casesOn (w=none) fun a=>∃ v,w=some v/\VR P g ρ a v
theorem GetR.some {a:AV} {o:Option AV} {w:Option Value} (h:GetR P g ρ o w) (e:o=some a):∃ v,w=some v/\VR P g ρ a v:=by subst e;exact h
theorem GetR.isSome {o:Option AV} {w:Option Value} (h:GetR P g ρ o w):o.isSome=w.isSome:=by cases o <;> first | exact h▸rfl | exact h.elim fun uu q=>q.1▸rfl
theorem GetR.getD {o:Option AV} {w:Option Value} (h:GetR P g ρ o w) {d:AV} {dv:Value} (hd:VR P g ρ d dv):VR P g ρ (o.getD d) (w.getD dv):=by cases o <;> first | exact h▸hd | exact h.elim fun uu q=>q.1▸q.2
theorem du_get {k:AV} {u:U} (hu:uOf k=some u):∀ {es:List (AV×AV)} {kvs:List (U×Value)},DU P g ρ es kvs->GetR P g ρ (dget es k) (valueAt kvs u)
 | [],[],_=>rfl
 | [],_ :: _,h=>h.elim
 | _ :: _,[],h=>h.elim
 | e :: es,kv :: kvs,D=>by
  unfold dget valueAt
  rw [List.find?_cons,keyEq_u D.1 hu]
  by_cases q:kv.1=u
  ·rw [decide_eq_true q];exact ⟨_,rfl,D.2.1⟩
  ·rw [decide_eq_false q];exact du_get hu D.2.2
theorem dp_get {k:AV} {u:List U} (hu:kOf k u):∀ {es:List (AV×AV)} {kvs:List (List U×Addr×Value)},DP P g ρ es kvs->GetR P g ρ (dget es k) ((atKey kvs u).map (·.2))
 | [],[],_=>rfl
 | [],_ :: _,h=>h.elim
 | _ :: _,[],h=>h.elim
 | e :: es,kv :: kvs,D=>by
  unfold dget atKey
  rw [List.find?_cons,keyEq_p D.1 hu]
  by_cases q:kv.1=u
  ·rw [decide_eq_true q];exact ⟨_,rfl,D.2.2.1⟩
  ·rw [decide_eq_false q];exact dp_get hu D.2.2.2
theorem du_put {k a:AV} {u:U} {v:Value} (hu:uOf k=some u) (ha:VR P g ρ a v):∀ {es:List (AV×AV)} {kvs:List (U×Value)},DU P g ρ es kvs->(kvs.map (·.1)).Nodup->DU P g ρ (dput es k a) (stored kvs u v)
 | [],[],_,_=>⟨hu,ha,trivial⟩
 | [],_ :: _,h,_=>h.elim
 | _ :: _,[],h,_=>h.elim
 | e :: es,kv :: kvs,D,hn=>by
  rw [nD1,nB1] at hn
  unfold dput
  rw [keyEq_u D.1 hu]
  unfold stored
  rw [List.any_cons,nD1]
  by_cases q:kv.1=u
  ·subst q
   have:kvs.map (fun x=>if x.1=kv.1 then (x.1,v) else x)=kvs:=(List.map_congr_left fun x hx=>if_neg fun e=>hn.1 (List.mem_map.mpr ⟨x,hx,e⟩)).trans (List.map_id' kvs)
   rw [decide_eq_true rfl,Bool.true_or,if_pos rfl,if_pos rfl]
   exact (congrArg (fun l=>DU P g ρ ((e.1,a) :: es) ((kv.1,v) :: l)) this).mpr ⟨D.1,ha,D.2.2⟩
  ·have ih:=du_put hu ha D.2.2 hn.2
   unfold stored at ih
   rw [decide_eq_false q,Bool.false_or,if_neg q]
   split at ih
   ·rename_i h;rw [if_pos h];exact ⟨D.1,D.2.1,ih⟩
   ·rename_i h;rw [if_neg h];exact ⟨D.1,D.2.1,ih⟩
theorem dp_put {k a:AV} {u:List U} {x:Addr} {v:Value} (hu:kOf k u) (hx:VR P g ρ k (.ref x)) (ha:VR P g ρ a v):∀ {es:List (AV×AV)} {kvs:List (List U×Addr×Value)},DP P g ρ es kvs->(kvs.map (·.1)).Nodup->DP P g ρ (dput es k a) (storedH kvs u x v)
 | [],[],_,_=>⟨hu,hx,ha,trivial⟩
 | [],_ :: _,h,_=>h.elim
 | _ :: _,[],h,_=>h.elim
 | e :: es,kv :: kvs,D,hn=>by
  rw [nD1,nB1] at hn
  unfold dput
  rw [keyEq_p D.1 hu]
  unfold storedH
  have ha':atKey (kv :: kvs) u=if kv.1=u then some kv.2 else atKey kvs u:=by
   unfold atKey;rw [List.find?_cons]
   by_cases q:kv.1=u
   ·rw [decide_eq_true q,if_pos q];rfl
   ·rw [decide_eq_false q,if_neg q]
  rw [ha',nD1]
  by_cases q:kv.1=u
  ·subst q
   rw [decide_eq_true rfl,if_pos rfl]
   show DP P g ρ ((e.1,a) :: es) (putAt kv.1 v kv :: kvs.map (putAt kv.1 v))
   rw [map_putAt_of_not_mem kvs kv.1 v hn.1,putAt,if_pos rfl]
   exact ⟨D.1,D.2.1,ha,D.2.2.2⟩
  ·have ih:=dp_put hu hx ha D.2.2.2 hn.2
   unfold storedH at ih
   rw [decide_eq_false q,if_neg q,putAt,if_neg q]
   split at ih
   ·rename_i h;rw [if_pos h];exact ⟨D.1,D.2.1,D.2.2.1,ih⟩
   ·rename_i h;rw [if_neg h];exact ⟨D.1,D.2.1,D.2.2.1,ih⟩
theorem kinds_put {kd:Nat} {k a:AV} (hk:keyKind k=kd):∀ {es:List (AV×AV)},(∀ e∈es,keyKind e.1=kd)->∀ e∈dput es k a,keyKind e.1=kd
 | [],_,e,he=>(List.mem_singleton.mp he)▸hk
 | p :: r,h,e,he=>by
  unfold dput at he
  cases q:keyEq p.1 k with
  | true=>rw [q] at he;exact (nZ.mp he).elim (fun q=>q▸h p (.head _)) fun q=>h e (.tail _ q)
  | false=>rw [q] at he;exact (nZ.mp he).elim (fun q=>q▸h p (.head _)) fun q=>kinds_put hk (fun e he=>h e (.tail _ he)) e q
theorem du_length:∀ {es:List (AV×AV)} {kvs:List (U×Value)},DU P g ρ es kvs->kvs.length=es.length
 | [],[],_=>rfl
 | [],_ :: _,h=>h.elim
 | _ :: _,[],h=>h.elim
 | _ :: _,_ :: _,D=>congrArg (·+1) (du_length D.2.2)
theorem dp_length:∀ {es:List (AV×AV)} {kvs:List (List U×Addr×Value)},DP P g ρ es kvs->kvs.length=es.length
 | [],[],_=>rfl
 | [],_ :: _,h=>h.elim
 | _ :: _,[],h=>h.elim
 | _ :: _,_ :: _,D=>congrArg (·+1) (dp_length D.2.2.2)
theorem isKey_of {prog:Program} {w:World} {h:Heap} {k:AV} {u:List U} {x:Addr} (hk:kOf k u) (hv:VR P g ρ k (.ref x)) (hg:∀ b o,g.get? b=some o->h.get? b=some o):IsTupleKey (uKind prog w) h u x:=by
 refine eX4 hk fun p q u1 u2 qA2=>eD4 qA2 fun eA2x4 a1 a2 eA2x7=>?_;obtain rfl:=eA2x4;obtain rfl:=eA2x7
 refine eX3 hv fun y items n qA3=>eD3 qA3 fun e h1 r=>?_
 cases e
 refine ⟨_,items,n,hg _ _ h1,rfl,rfl,?_⟩
 match items.toList,r with
 | [a,b],r=>exact .cons (isU_of a1 r.1) (.cons (isU_of a2 r.2.1) .nil)
theorem isKey_ref {k:AV} {u:List U} {v:Value} (hk:kOf k u) (hv:VR P g ρ k v):∃ x,v=.ref x:=by
 refine eX4 hk fun p q u1 u2 qA4=>eD4 qA4 fun eA4x4 a1 a2 eA4x7=>?_;obtain rfl:=eA4x4;obtain rfl:=eA4x7
 exact hv.imp fun x h=>h.elim fun uu h=>h.elim fun uu h=>h.1
theorem dp_keys {prog:Program} {w:World} {h:Heap} (hg:∀ b o,g.get? b=some o->h.get? b=some o):∀ {es:List (AV×AV)} {kvs:List (List U×Addr×Value)},DP P g ρ es kvs->∀ x∈kvs,(tupleKind (uKind prog w)).is h x.1 x.2.1
 | [],[],_,_,hx=>nomatch hx
 | [],_ :: _,h,_,_=>h.elim
 | _ :: _,[],h,_,_=>h.elim
 | _ :: _,_ :: _,D,y,hy=>(nZ.mp hy).elim (fun q=>q▸isKey_of D.1 D.2.1 hg) fun q=>dp_keys hg D.2.2.2 y q
end
section
variable {B:Base} {z:Z}
theorem dictE {p:Addr×Option Addr} {kd ep:Nat} {es:List (AV×AV)} {C:Addr×Option Addr->Prop} (R:Rep B z) (hc:CellAt B z p (.dict kd es ep))
  (f:∀ l kvs,kd < 3->(∀ e∈es,keyKind e.1=kd)->z.s.heap.DictAt (uKind B.prog B.w) l kvs ep->DU B.P z.g z.ρ es kvs->C (l,none))
  (h:∀ l kvs,kd=3->z.s.heap.DictOfH (tupleKind (uKind B.prog B.w)) l kvs->DP B.P z.g z.ρ es kvs->C (l,none)):C p:=by
 obtain ⟨l,q⟩:=p
 obtain ⟨rfl,hc⟩:q=none/\_:=hc
 rcases hc with ⟨h3,hk,kvs,D,U⟩ | ⟨h3,kvs,ents,e1,e2,e3,U⟩
 ·exact f l kvs (nC h3) hk D U
 ·exact h l kvs h3 ⟨_,ents,ep,e1,⟨rfl,rfl,rfl⟩,rfl,e2,dp_keys R.stays U,e3⟩ U
theorem dictK {p:Addr×Option Addr} {kd ep:Nat} {es:List (AV×AV)} {a:AV} {v:Value} {C:Addr×Option Addr->Value->Prop} (R:Rep B z) (hc:CellAt B z p (.dict kd es ep)) (hk:keyKind a=kd) (hv:Vr B z a v)
  (f:∀ l kvs u,kd < 3->(∀ e∈es,keyKind e.1=kd)->uOf a=some u->isU u v=true->z.s.heap.DictOf (uKind B.prog B.w) l kvs->DU B.P z.g z.ρ es kvs->C (l,none) v)
  (h:∀ l kvs u x,kd=3->kOf a u->Vr B z a (.ref x)->(tupleKind (uKind B.prog B.w)).is z.s.heap u x->z.s.heap.DictOfH (tupleKind (uKind B.prog B.w)) l kvs->DP B.P z.g z.ρ es kvs->C (l,none) (.ref x)):C p v :=
 dictE (C:=fun p=>C p v) R hc (fun l kvs h3 hks D U=>(kind_lt (hk▸h3)).elim fun u hu=>f l kvs u h3 hks hu (isU_of hu hv) D.dictOf U)
  fun l kvs h3 D U=>(kind_3 (hk.trans h3)).elim fun u hu=>(isKey_ref hu hv).elim fun x e=>e▸h l kvs u x h3 hu (e▸hv) (isKey_of hu (e▸hv) R.stays) D U
theorem dictH_cell {h:Heap} {t:Nat} {a:Addr} {es:List (AV×AV)} {kvs:List (List U×Addr×Value)} (hd:h.DictOfH (tupleKind (uKind B.prog B.w)) a kvs) (D:DP B.P z.g z.ρ es kvs):∃ ep,CellAt B (z.put h t) (a,none) (.dict 3 es ep):=by
 refine eX3 hd fun qA6x0 ents ep qA6=>eD6 qA6 fun e1 qA6x4 e2 e3 uu e4=>?_;obtain ⟨cls,dict,data,sl⟩:=qA6x0;obtain ⟨q1,q2,q3⟩:=qA6x4
 simp only at q1 q2 q3 e2
 subst q1 q2 q3 e2
 exact ⟨ep,rfl,.inr ⟨rfl,kvs,ents,e1,e3,e4,D⟩⟩
theorem dictU_cell {h:Heap} {t:Nat} {a:Addr} {kd:Nat} {es:List (AV×AV)} {kvs:List (U×Value)} (h3:kd < 3) (hk:∀ e∈es,keyKind e.1=kd) (hd:h.DictOf (uKind B.prog B.w) a kvs) (D:DU B.P z.g z.ρ es kvs):∃ ep,CellAt B (z.put h t) (a,none) (.dict kd es ep) :=
 hd.dictAt.elim fun ep x=>⟨ep,rfl,.inl ⟨nJ h3,hk,kvs,x,D⟩⟩
end
end
section
open PySem.SeqAt PySem.MeetsSeq
theorem vrs_append {P:Places} {g:Heap} {ρ:Rho} {bs:List AV} {us:List Value} (h2:VRs P g ρ bs us):∀ {as:List AV} {vs:List Value},VRs P g ρ as vs->VRs P g ρ (as ++ bs) (vs ++ us)
 | [],[],_=>h2
 | [],_ :: _,h=>h.elim
 | _ :: _,[],h=>h.elim
 | _ :: _,_ :: _,h=>⟨h.1,vrs_append h2 h.2⟩
theorem vrs_rep {P:Places} {g:Heap} {ρ:Rho} {a:AV} {v:Value} (h:VR P g ρ a v):∀ n:Nat,VRs P g ρ (List.replicate n a) (List.replicate n v)
 | 0=>trivial
 | n+1=>⟨h,vrs_rep h n⟩
theorem vrs_of {P:Places} {g:Heap} {ρ:Rho}:∀ {as:List AV} {vs:List Value},VRs P g ρ as vs->∀ {j:Nat} {a:AV},as[j]?=some a->∃ v,vs[j]?=some v/\VR P g ρ a v
 | [],_,_,_,_,e=>nomatch e
 | _ :: _,[],h,_,_,_=>h.elim
 | _ :: _,_ :: _,h,0,_,e=>⟨_,rfl,oJ e▸h.1⟩
 | _ :: _,_ :: _,h,j+1,_,e=>vrs_of h.2 (j:=j) e
theorem vrs_take {P:Places} {g:Heap} {ρ:Rho}:∀ {as:List AV} {vs:List Value} (k:Nat),VRs P g ρ as vs->VRs P g ρ (as.take k) (vs.take k)
 | [],[],k,_=>by rw [List.take_nil,List.take_nil];trivial
 | [],_ :: _,_,h=>h.elim
 | _ :: _,[],_,h=>h.elim
 | _ :: _,_ :: _,0,h=>trivial
 | _ :: _,_ :: _,k+1,h=>⟨h.1,vrs_take k h.2⟩
theorem vrs_rev {P:Places} {g:Heap} {ρ:Rho}:∀ {as:List AV} {vs:List Value},VRs P g ρ as vs->VRs P g ρ as.reverse vs.reverse
 | [],[],h=>h
 | [],_ :: _,h=>h.elim
 | _ :: _,[],h=>h.elim
 | _ :: _,_ :: _,h=>by rw [List.reverse_cons,List.reverse_cons];exact vrs_append (bs:=[_]) (us:=[_]) ⟨h.1,trivial⟩ (vrs_rev h.2)
abbrev RowZ (B:Base) (z:Z) (T:String) (vs:List AV) (v:Value):Prop:=RowAt z.s.heap T (Vrs B z vs) v
section
variable {B:Base} {A:Around} {z:Z} {Q X:PostV}
theorem lst_row {vs:List AV} {v:Value} (R:Rep B z) (h:Vr B z (.lst vs) v):RowZ B z "list" vs v:=RowAt.mono R.stays h fun uu q=>q
theorem tup_row {vs:List AV} {v:Value} (R:Rep B z) (h:Vr B z (.tup vs) v):RowZ B z "tuple" vs v:=RowAt.mono R.stays h fun uu q=>q
theorem cell_row {i:Nat} {vs:List AV} {v:Value} (R:Rep B z) (hσ:z.σ i=some (.list vs)) (h:Vr B z (.cell i) v):RowZ B z "list" vs v :=
 h.elim fun p q=>(R.cell i _ p hσ q.1).2.elim fun its e=>e.elim fun n e=>⟨p.1,its,n,q.2,e.1,e.2⟩
theorem seqZ {a:AV} {v:Value} {fR:List AV->Prop} {fD:Nat->List (AV×AV)->Nat->Prop} {C:Value->Prop} (R:Rep B z) (h:onSeq z.σ a fR fD) (hv:Vr B z a v) (t:∀ vs v,RowZ B z "tuple" vs v->fR vs->C v) (l:∀ vs v,RowZ B z "list" vs v->fR vs->C v)
  (d:∀ i p kd es ep,a=.cell i->z.σ i=some (.dict kd es ep)->z.ρ i=some p->CellAt B z p (.dict kd es ep)->fD kd es ep->C (.ref p.1)):C v :=
 seqE (C:=fun b=>a=b->Vr B z b v->C v) h (fun vs h uu hv=>t vs v (tup_row R hv) h) (fun vs h uu hv=>l vs v (lst_row R hv) h) (fun i vs e h uu hv=>l vs v (cell_row R e hv) h) (fun i kd es ep e h ea hv=>hv.elim fun p q=>q.2▸d i p kd es ep ea e q.1 (R.cell i _ p e q.1) h) rfl hv
theorem rowZ {a:AV} {v:Value} {fR:List AV->Prop} {C:Prop} (R:Rep B z) (h:onRow z.σ a fR) (hv:Vr B z a v) (l:∀ vs,RowZ B z "list" vs v->fR vs->C):C :=
 rowE (C:=fun b=>Vr B z b v->C) h (fun vs h hv=>l vs (lst_row R hv) h) (fun i vs e h hv=>l vs (cell_row R e hv) h) hv
theorem row_len {its:Array Value} {vs:List AV} (h:Vrs B z vs its.toList):vs.length=its.size:=vrs_length h
theorem bits_small {a:Int} (h:a.natAbs < 2 ^ 60):Builtin.Int.intBits a<=64:=by
 unfold Builtin.Int.intBits
 split
 ·decide
 ·rename_i q
  exact nA (Nat.lt_of_not_ge fun e=>absurd ((Nat.le_log2 (fun e=>absurd (beq_iff_eq.mpr (Int.natAbs_eq_zero.mp e)) q)).mp e) (Nat.not_le.mpr h)) (by decide)
theorem arithZ {f:Int->Int->Int} {a b:AV} {v u:Value} {k:Nat} {σ:Store} {C:Value->Value->Prop} (h:arith f a b k σ Q) (hx:Vr B z a v) (hy:Vr B z b u) (g:∀ i t j s,i.natAbs < 2 ^ 60->j.natAbs < 2 ^ 60->Q (.int (f i j)) k σ->C (.int i t) (.int j s)):C v u :=
 vInt2 h hx hy fun i t j s h=>smallE h fun h1 h=>smallE h fun h2 h=>g i t j s h1 h2 h
theorem row_two {m n:Nat} (h1:m < 1000) (h2:n < 1000):m+n<=sizeLine:=nA (nU (Nat.add_lt_add h1 h2)) (by decide)
theorem app_arr (a b:Array Value):(a.toList ++ b.toList).toArray=a ++ b:=by simp
theorem add_ok {m:Bool} {a b:AV} {v u:Value} (h:addW m a b z.k z.σ Q) (R:Rep B z) (hx:Vr B z a v) (hy:Vr B z b u):Runs B A z (binaryOp .Add v u) (VEnd B Q) X:=by
 refine either h (fun uu h=>arithZ (C:=fun v u=>Runs B A z (binaryOp .Add v u) (VEnd B Q) X) h hx hy fun i t j s uu uu h=>Runs.ret R h fun Qc E hQ=>wpAny_add_int (hQ _ _ ⟨_,rfl⟩)) fun uu h=>either h (fun uu h=>?_) fun uu h=>?_
 ·refine tupA (C:=fun a=>Vr B z a v->_) h (fun xs h hx=>tupA (C:=fun b=>Vr B z b u->_) h (fun ys h hy=>onlyN h fun hne h=>fewE h fun h1 h=>fewE h fun h2 h=>?_) hy) hx
  refine eX3 (tup_row R hx) fun l its k qA0=>eD3 qA0 fun eA0x3 e r=>?_;obtain rfl:=eA0x3
  refine eX3 (tup_row R hy) fun l' its' k' qA1=>eD3 qA1 fun eA1x3 e' r'=>?_;obtain rfl:=eA1x3
  have em:∀ {xs:List AV} {its:Array Value},Vrs B z xs its.toList->xs.isEmpty=false->¬ its.isEmpty=true:=fun {xs its} r q e=>by
   have:its.toList=[]:=congrArg Array.toList (Array.isEmpty_iff.mp e)
   rw [this] at r
   cases xs with
   | nil=>exact ff q.symm
   | cons=>exact r.elim
  refine Runs.mkTup R (vrs_append r' r) h fun Qc E hQ=>P.add_tuple e e' (em r (Bool.or_eq_false_iff.mp hne).1) (em r' (Bool.or_eq_false_iff.mp hne).2) ?_ (row_len r▸row_len r'▸row_two h1 h2)
  have:=hQ z.s.toks
  rw [app_arr] at this
  exact this
 ·refine lstA (C:=fun a=>Vr B z a v->_) h (fun xs h hx=>lstA (C:=fun b=>Vr B z b u->_) h (fun ys h hy=>onlyN h fun uu h=>fewE h fun h1 h=>fewE h fun h2 h=>?_) hy) hx
  refine eX3 (lst_row R hx) fun l its k qA2=>eD3 qA2 fun eA2x3 e r=>?_;obtain rfl:=eA2x3
  refine eX3 (lst_row R hy) fun l' its' k' qA3=>eD3 qA3 fun eA3x3 e' r'=>?_;obtain rfl:=eA3x3
  refine Runs.mkRow (m:=false) R (vrs_append r' r) h fun Qc E hQ=>P.add_list e e' ?_ (row_len r▸row_len r'▸row_two h1 h2)
  have:=hQ z.s.toks
  rw [app_arr] at this
  exact this
theorem mul_ok {m:Bool} {a b:AV} {v u:Value} (h:mulW m a b z.k z.σ Q) (R:Rep B z) (hx:Vr B z a v) (hy:Vr B z b u):Runs B A z (binaryOp .Mult v u) (VEnd B Q) X:=by
 refine either h (fun uu h=>arithZ (C:=fun v u=>Runs B A z (binaryOp .Mult v u) (VEnd B Q) X) h hx hy fun i t j s h1 uu h=>Runs.ret R h fun Qc E hQ=>mul_int (hQ _ _ ⟨_,rfl⟩) (.of_left (bits_small h1))) fun uu h=>?_
 refine lstA (C:=fun a=>Vr B z a v->_) h (fun xs h hx=>?_) hx
 refine oneE (C:=fun xs=>Vr B z (.lst xs) v->_) h (fun x h hx=>vInt (C:=fun u=>Runs B A z (binaryOp .Mult v u) (VEnd B Q) X) h hy fun i t h=>only h fun hm h=>?_) hx
 subst hm
 refine eD3 h fun h0 h1 h3=>?_
 refine eX3 (lst_row R hx) fun l its k qA5=>eD3 qA5 fun eA5x3 hl r=>?_;obtain rfl:=eA5x3
 obtain ⟨its⟩:=its
 cases its with
 | nil=>exact r.elim
 | cons v0 its =>
  cases its with
  | cons=>exact r.2.elim
  | nil =>
  refine Runs.mkRow (m:=true) R (vrs_rep r.1 i.toNat) h3 fun Qc E hQ=>?_
  have hf:(List.foldl (fun x1 x2=>x1 ++ x2) #[] (List.replicate (if (#[v0]:Array Value).isEmpty=true then 0 else i.toNat) #[v0]))=(List.replicate i.toNat v0).toArray:=by
   rw [listMul_foldl_if]
   congr 1
   induction i.toNat with
   | zero=>rfl
   | succ n ih=>rw [List.replicate_succ,List.replicate_succ,List.flatten_cons,ih];rfl
  refine wpAny_binaryOp_repeat_ref (T:="list") (U:="int") (by decide) ⟨_,hl,rfl⟩ (fun s'=>typeIs_int s' i t) noFill_list_mul F.fills_int_mul F.slot_int_rmul repeat_list F.slot_int_index.lookup
   (call_meets F.slot_int_rmul (typeIs_int z.s i t) F.entry_int_rmul (F.args_int_rmul_2 _ _) (int___rmul___int_list i t l #[v0] k)
    ⟨hl,rfl,⟨_,hl,rfl⟩,call_meets F.slot_list_mul ⟨_,hl,rfl⟩ F.entry_list_mul (F.args_list_mul_2 _ _)
     (AutoListH.list___mul___list_int_3 l #[v0] k i t (by simp [Builtin.List.listFitsIndex];exact om123 h rfl) (by simp;exact om60 h.2.1 rfl) (by simp [Builtin.List.listTooLong,sizeLine];exact om60 h.2.1 rfl))
     ⟨hl,?_⟩⟩)
  rw [hf]
  exact hQ _
theorem bin_ok {op:Operator} {m:Bool} {a b:AV} {v u:Value} (h:binW m op a b z.k z.σ Q) (R:Rep B z) (hx:Vr B z a v) (hy:Vr B z b u):Runs B A z (binaryOp op v u) (VEnd B Q) X:=by
 cases op
 all_goals first | exact h.elim | skip
 ·exact add_ok h R hx hy
 ·exact arithZ (C:=fun v u=>Runs B A z (binaryOp .Sub v u) (VEnd B Q) X) h hx hy fun i t j s uu uu h=>Runs.ret R h fun Qc E hQ=>sub_int' (hQ _ _ ⟨_,rfl⟩)
 ·exact mul_ok h R hx hy
 ·exact vInt2 (C:=fun v u=>Runs B A z (binaryOp .Mod v u) (VEnd B Q) X) h hx hy fun i t j s h=>Runs.ret R h.2 fun Qc E hQ=>mod_int' (Int.ne_of_gt h.1) (hQ _ _ ⟨_,rfl⟩)
 ·exact vInt2 (C:=fun v u=>Runs B A z (binaryOp .FloorDiv v u) (VEnd B Q) X) h hx hy fun i t j s h=>Runs.ret R h.2.2 fun Qc E hQ=>floordiv_int (Int.ne_of_gt h.1) (hQ _ _ ⟨_,rfl⟩) (.inl (PyProof.noPylong_small (by have:=h.1;have:=h.2.1;exact Int.ofNat_lt.mp ((Int.natAbs_of_nonneg (Int.le_of_lt h.1)).symm▸Int.lt_trans h.2.1 (by decide)))))
end
section
variable {Y:Sys} {ns:Names} {p:Pos}
theorem ev_bin {a0 b0:Expr} {a b:E} {m:Bool} {op:Operator} (ha:EvOk Y ns a0 a) (hb:EvOk Y ns b0 b):EvOk Y ns (.BinOp a0 op b0 p) (.bin m op a b):=fun c z Q X hw K =>
 (ha c z _ X hw K).bindV fun z₁ x v g₁ hx h=>(Runs.holding (hb c z₁ _ X h (K.go g₁))).bindV fun z₂ y u g₂ hy h=>Runs.standAt ((bin_ok h g₂.rep (g₂.vr hx) hy).wp fun uu uu h=>wpAny_operateT h)
theorem ev_neg {a0:Expr} {a:E} (ha:EvOk Y ns a0 a):EvOk Y ns (.UnaryOp .USub a0 p) (.neg a):=fun c z Q X hw K =>
 (ha c z _ X hw K).bindV fun z₁ x v g₁ hx h=>Runs.standAt (Runs.holding (vInt (C:=fun v=>Runs Y.B c.A z₁ (unaryOp .USub v) (VEnd Y.B Q) X) h hx fun i t h=>smallE h fun uu h=>Runs.ret g₁.rep h fun Qc E hQ=>neg_int (hQ _ _ ⟨_,rfl⟩)))
end
end
section
open PySem.SeqAt PySem.MeetsSeq
theorem subscripted_plain {sl:Expr} {o i:Value} (h:isSlice sl=false):subscripted sl false o i=operate [o,i] (getItem o i):=by
 cases sl <;> first | rfl | exact ff h.symm
theorem sub_tail {prog:Program} {w:World} {A:Around} {value sl:Expr} {o i:Value} {T id:String} {Q:Value->Shared->Prop} {E:Value->Shared->Prop} {s:Shared} (hT:s.TypeIs o T)
  (hl:typeLookup (.type T) "__getitem__"=pure (some (.builtin id))) {ops:List Value} (hs:subscripted sl false o i=operate ops (getItem o i)) (h:wpAny (model prog w) A (getItem o i) Q E s) :
  wpAny (model prog w) A (getitemInPython o >>= fun p=>subscripted sl p o i >>= fun r=>letTemporaryGo value o r >>= fun uu=>Pure.pure r) Q E s:=by
 rw [getitemInPython_of_ne hT.not_modules]
 refine nE1 (nE1 (wpAny_specialOf hT hl ?_))
 refine nF1 (nE1 ?_)
 rw [hs]
 exact wpAny_operating (wpAny_mono h (fun r s' h'=>nE1 (wpAny_letTemporaryGo (nF1 h'))) fun uu uu x=>x)
theorem place_e {n j:Nat} {i:Int} {C:Prop} (h:place n i=some j) (f:0<=i->i < n->i.toNat=j->C) (g:i < 0->0<=i+n->(i+n).toNat=j->C):C:=by
 unfold place at h
 by_cases q:0<=i
 ·rw [if_pos q] at h
  by_cases q2:i < n
  ·rw [if_pos q2] at h;exact f q q2 (oJ h)
  ·rw [if_neg q2] at h;exact nn h
 ·rw [if_neg q] at h
  by_cases q2:0<=i+n
  ·rw [if_pos q2] at h;exact g (Int.not_le.mp q) q2 (oJ h)
  ·rw [if_neg q2] at h;exact nn h
theorem place_seqIndex {n j:Nat} {i:Int} (h:place n i=some j):seqIndex? i n=some j:=by
 unfold seqIndex?
 refine place_e h (fun q q2 e=>?_) fun q q2 e=>?_
 ·rw [if_neg (Int.not_lt.mpr q),if_pos (by simp [q,q2]),e]
 ·rw [if_pos q,if_pos (by simp;omega),e]
structure Facts0 (B:Base):Prop where
 glob:GlobFacts B
 sysm:∃ o,B.hb.get? sysModules=some o
section
variable {B:Base} {A:Around} {z:Z} {Q X:PostV}
theorem getItem_row {s:Shared} {l:Addr} {items:Array Value} {k:Nat} {i:Int} {t:Tok} {j:Nat} {x:Value} {Q:Value->Shared->Prop} {E:Value->Shared->Prop} (e:s.heap.get? l=some (rowObj "list" items k)) (hs:i.natAbs < 2 ^ 60) (hj:place items.size i=some j) (hx:items[j]?=some x) (h:Q x s) :
  wpAny (model B.prog B.w) A (getItem (.ref l) (.int i t)) Q E s :=
 place_e hj (fun q q2 ej=>wpAny_getItem_list ⟨_,e,rfl,k,rfl⟩ q (om95 hs rfl) (ej▸hx) h) fun q q2 ej=>wpAny_getItem_list_neg ⟨_,e,rfl,k,rfl⟩ q (by exact om129 q2) (om94 hs rfl) (ej▸hx) h
theorem live_ne (F:Facts0 B) (R:Rep B z) {i:Nat} {c:Cell} {p:Addr×Option Addr} (hσ:z.σ i=some c) (hρ:z.ρ i=some p):(p.1==sysModules)=false :=
 F.sysm.elim fun o ho=>beq_false_of_ne fun e=>nn ((R.out i c p p.1 hσ hρ (.inl rfl)).symm.trans (e▸R.base _ _ ho))
theorem line_units {n:Nat} (C:CxZ B A fs n z):A.units+20 < cLine:=nF (nA (nM (by decide:20<=50) _) (nA (by have:=C.units;exact om149 this) (nB 5000))) (by decide)
theorem item_ok {a i:AV} {v u:Value} {Q:AV->Prop} (h:subW a i z.σ Q) (hu:A.units+20 < cLine) (R:Rep B z) (hv:Vr B z a v) (hi:Vr B z i u) (sl:Expr) (hsl:isSlice sl=false) (value:Expr) (Qc:Value->Shared->Prop) (E:Value->Shared->Prop)
  (hQ:∀ tk r b,Vr B z b r->Q b->Qc r (z.put z.s.heap tk).s):wpAny (model B.prog B.w) A (getitemInPython v >>= fun p=>subscripted sl p v u >>= fun r=>letTemporaryGo value v r >>= fun uu=>Pure.pure r) Qc E z.s:=by
 have hs:=fun {o i}=>subscripted_plain (o:=o) (i:=i) hsl
 have idx:∀ {T vs its k l v},v=Value.ref l->z.s.heap.get? l=some (rowObj T its k)->Vrs B z vs its.toList->idxW vs i Q->(∀ n t j x,n.natAbs < 2 ^ 60->place its.size n=some j->its[j]?=some x->(∀ tk,Qc x (z.put z.s.heap tk).s)->wpAny (model B.prog B.w) A (getitemInPython v >>= fun p=>subscripted sl p v (.int n t) >>= fun r=>letTemporaryGo value v r >>= fun uu=>Pure.pure r) Qc E z.s) ->
   wpAny (model B.prog B.w) A (getitemInPython v >>= fun p=>subscripted sl p v u >>= fun r=>letTemporaryGo value v r >>= fun uu=>Pure.pure r) Qc E z.s:=fun {T vs its k l v} ev e r h f =>
  vInt (C:=fun u=>wpAny (model B.prog B.w) A (getitemInPython v >>= fun p=>subscripted sl p v u >>= fun r=>letTemporaryGo value v r >>= fun uu=>Pure.pure r) Qc E z.s) h hi fun n t h=>smallE h fun hn h=>okE h fun j hj h=>okE h fun b hb h=>(vrs_of r hb).elim fun x q=>f n t j x hn (row_len r▸hj) (Array.getElem?_toList.symm.trans q.1) fun tk=>hQ tk x b q.2 h
 refine seqZ (C:=fun v=>wpAny (model B.prog B.w) A (getitemInPython v >>= fun p=>subscripted sl p v u >>= fun r=>letTemporaryGo value v r >>= fun uu=>Pure.pure r) Qc E z.s) R h hv (fun vs v hv h=>?_) (fun vs v hv h=>?_) fun j p kd es ep uu hσ hρ hc h=>only h fun hk h=>okE h fun b hb h=>?_
 ·refine eX3 hv fun l its k qA0=>eD3 qA0 fun eA0x3 e r=>?_;obtain rfl:=eA0x3
  exact idx rfl e r h fun n t j x hn hj hx hq=>sub_tail ⟨_,e,rfl⟩ slot_tuple_getitem.lookup hs (PyProof.Rows.getItem_tuple ⟨_,e,rfl,k,rfl⟩ (om94 hn rfl) (om95 hn rfl) (place_seqIndex hj) hx (hq z.s.toks))
 ·refine eX3 hv fun l its k qA1=>eD3 qA1 fun eA1x3 e r=>?_;obtain rfl:=eA1x3
  exact idx rfl e r h fun n t j x hn hj hx hq=>sub_tail ⟨_,e,rfl⟩ slot_list_getitem.lookup hs (getItem_row e hn hj hx (hq z.s.toks))
 ·exact dictK (C:=fun p u=>wpAny (model B.prog B.w) A (getitemInPython (.ref p.1) >>= fun q=>subscripted sl q (.ref p.1) u >>= fun r=>letTemporaryGo value (.ref p.1) r >>= fun uu=>Pure.pure r) Qc E z.s) R hc (nE hk) hi
   (fun l kvs u uu uu hu hku D U=>(GetR.some (du_get hu U) hb).elim fun x q=>sub_tail D.typeIs slot_dict_getitem.lookup hs (wpAny_getItem_of hku D.mapOf q.1 (hQ _ x b q.2 h)))
   fun l kvs u x uu hu' uu hka D U=>(GetR.some (dp_get hu' U) hb).elim fun y q=>mapE q.1 fun pv hx e=>sub_tail D.typeIs slot_dict_getitem.lookup hs (wpAny_getItem_heap (tupleKind_room_in1 (nF (nM (by decide:1<=20) _) hu)) hka D hx (hQ _ pv.2 b (e▸q.2) h))
theorem new_slice {Qa:Z->Value->Prop} (vl vh vt:Value) (R:Rep B z) (h:∀ g' t,Go B none_ z ((z.put (z.s.heap.push { cls:=.type "slice",data:=.fields #[vl,vh,vt] }) t).gr g')->g'.get? z.N=some { cls:=.type "slice",data:=.fields #[vl,vh,vt] }->Qa ((z.put (z.s.heap.push { cls:=.type "slice",data:=.fields #[vl,vh,vt] }) t).gr g') (.ref z.N)):Runs B A z (newFields "slice" [vl,vh,vt]) Qa X:=fun Qc E hQ uu =>
 (Go.frozen R { cls:=.type "slice",data:=.fields #[vl,vh,vt] } rfl (nf_of rfl rfl) z.s.toks).elim fun g' q=>wpAny_newObj_type (hQ _ (.ref z.N) q.1 (h g' z.s.toks q.1 q.2)) (show (3:Nat)<=sizeLine+2 from by decide)
theorem slc_ok {m:Bool} {vs ws:List AV} {v vl vh vt:Value} {u:Addr} {pl ph pt:Option Int} {value l0 h0 t0:_} {p:Pos} (hv:RowZ B z "list" vs v) (hlen:vs.length < 1000) (R:Rep B z) (hu:z.g.get? u=some { cls:=.type "slice",data:=.fields #[vl,vh,vt] })
  (q1:IsPart vl pl) (q2:IsPart vh ph) (q3:IsPart vt pt) (q4:pt≠some 0) (hw:∀ its:Array Value,Vrs B z vs its.toList->Vrs B z ws (slicePick its pl ph pt).toList) (h:mkList m ws z.k z.σ Q) :
  Runs B A z (getitemInPython v >>= fun q=>subscripted (.Slice l0 h0 t0 p) q v (.ref u) >>= fun r=>letTemporaryGo value v r >>= fun uu=>Pure.pure r) (VEnd B Q) X:=by
 refine eX3 hv fun l its k qA2=>eD3 qA2 fun eA2x3 e r=>?_;obtain rfl:=eA2x3
 refine Runs.mkRow R (hw its r) h fun Qc E hQ=>?_
 have:=hQ z.s.toks
 rw [Array.toArray_toList] at this
 have hsub:∃ ops,subscripted (.Slice l0 h0 t0 p) false (.ref l) (.ref u)=operate ops (getItem (.ref l) (.ref u)):=by cases t0 <;> exact ⟨_,rfl⟩
 exact hsub.elim fun ops hsub=>sub_tail ⟨_,e,rfl⟩ slot_list_getitem.lookup hsub (wpAny_getItem_list_slice ⟨_,e,rfl,k,rfl⟩ ⟨_,R.stays _ _ hu,rfl,rfl⟩ q1 q2 q3 q4 this (line_ok (row_len r▸hlen)))
theorem upto_pick {its:Array Value} {vs ws:List AV} {n:Int} (h:uptoL vs n=some ws) (r:Vrs B z vs its.toList):Vrs B z ws (slicePick its none (some n) none).toList:=by
 unfold uptoL at h
 by_cases q:0<=n
 ·rw [if_pos q] at h
  obtain rfl:=oJ h
  have e:=slicePick_upto' its n.toNat
  rw [Int.toNat_of_nonneg q] at e
  rw [e]
  simpa using vrs_take n.toNat r
 ·rw [if_neg q] at h
  refine condE h fun q e=>?_
  subst e
  obtain rfl:=of_decide_eq_true q
  rw [show (-1:Int)=-((1:Nat):Int) from rfl,slicePick_butLast its 1 (by decide),List.dropLast_eq_take,row_len r]
  simpa using vrs_take (its.size - 1) r
end
section
variable {Y:Sys} {ns:Names} {p:Pos}
theorem ev_sub {a0 i0:Expr} {a i:E} (ha:EvOk Y ns a0 a) (hi:EvOk Y ns i0 i) (hsl:isSlice i0=false):EvOk Y ns (.Subscript a0 i0 p) (.sub a i):=fun c z Q X hw K =>
 (ha c z _ X hw K).bindV fun z₁ x v g₁ hx h=>(Runs.holding (hi c z₁ _ X h (K.go g₁))).bindV fun z₂ y u g₂ hy h=>Runs.standAt (Runs.val g₂.rep fun Qc E hQ =>
  item_ok h (line_units ((K.go g₁).go g₂).cx) g₂.rep (g₂.vr hx) hy i0 hsl a0 Qc E fun tk r b hr hq=>hQ tk r ⟨b,hr,hq⟩)
theorem ev_upto {m:Bool} {a0 h0:Expr} {a h:E} {q:Pos} (ha:EvOk Y ns a0 a) (hh:EvOk Y ns h0 h):EvOk Y ns (.Subscript a0 (.Slice none (some h0) none q) p) (.upto m a h):=fun c z Q X hw K=>by
 show Runs Y.B c.A z (eval a0 c.env >>= fun v=>PySem.holding [v] (Pure.pure Value.none >>= fun vl=>PySem.holding [vl] (eval h0 c.env) >>= fun vh=>PySem.holding [vl,vh] (Pure.pure Value.none) >>= fun vt=>newFields "slice" [vl,vh,vt]) >>= fun u=>PySem.standAt p >>= fun uu=>getitemInPython v >>= fun p=>subscripted (.Slice none (some h0) none q) p v u >>= fun r=>letTemporaryGo a0 v r >>= fun uu=>Pure.pure r) _ _
 refine (ha c z _ X hw K).bindV fun z₁ x v g₁ hx h₁=>Runs.bind (Qa:=fun z' u=>∃ s vh y,u=.ref s/\z'.g.get? s=some { cls:=.type "slice",data:=.fields #[.none,vh,.none] }/\Vr Y.B z' y vh/\uptoW m x y z'.k z'.σ Q) (Runs.holding ?_) fun z₅ u g₅ q=>?_
 ·rw [pure_bind]
  refine (Runs.holding (hh c z₁ _ X h₁ (K.go g₁))).bindV fun z₂ y vh g₂ hy h₂=>(Runs.holding (Runs.pure (Qa:=fun z' (v:Value)=>v=.none/\Vr Y.B z' y vh/\uptoW m x y z'.k z'.σ Q) g₂.rep ⟨rfl,hy,h₂⟩)).bind fun z₃ vt g₃ q=>?_
  rw [q.1]
  exact new_slice .none vh .none g₃.rep fun g' t g₄ e=>⟨_,vh,y,rfl,e,g₄.vr q.2.1,q.2.2⟩
 ·refine eX3 q fun s vh y qA3=>eD4 qA3 fun eA3x3 e hy h=>?_;obtain rfl:=eA3x3
  exact Runs.standAt (rowZ g₅.rep h (g₅.vr hx) fun vs hv h=>fewE h fun hl h=>vInt (C:=fun vh=>z₅.g.get? s=some { cls:=.type "slice",data:=.fields #[.none,vh,.none] }->_) h hy (fun n t h e=>okE h fun ws hws h=>slc_ok hv hl g₅.rep e .none (.int n t) .none nofun (fun its r=>upto_pick hws r) h) e)
theorem ev_rev {a0 t0:Expr} {a t:E} {q:Pos} (ha:EvOk Y ns a0 a) (ht:EvOk Y ns t0 t):EvOk Y ns (.Subscript a0 (.Slice none none (some t0) q) p) (.rev a t):=fun c z Q X hw K=>by
 show Runs Y.B c.A z (eval a0 c.env >>= fun v=>PySem.holding [v] (Pure.pure Value.none >>= fun vl=>PySem.holding [vl] (Pure.pure Value.none) >>= fun vh=>PySem.holding [vl,vh] (eval t0 c.env) >>= fun vt=>newFields "slice" [vl,vh,vt]) >>= fun u=>PySem.standAt p >>= fun uu=>getitemInPython v >>= fun p=>subscripted (.Slice none none (some t0) q) p v u >>= fun r=>letTemporaryGo a0 v r >>= fun uu=>Pure.pure r) _ _
 refine (ha c z _ X hw K).bindV fun z₁ x v g₁ hx h₁=>Runs.bind (Qa:=fun z' u=>∃ s vt y,u=.ref s/\z'.g.get? s=some { cls:=.type "slice",data:=.fields #[.none,.none,vt] }/\Vr Y.B z' y vt/\revW x y z'.k z'.σ Q) (Runs.holding ?_) fun z₅ u g₅ q=>?_
 ·rw [pure_bind]
  refine (Runs.holding (Runs.pure (Qa:=fun z' (v:Value)=>v=.none/\Ctx Y ns c z'/\evW Y.cw t c.vars z'.k z'.σ (fun t k σ=>revW x t k σ Q) X) g₁.rep ⟨rfl,K.go g₁,h₁⟩)).bind fun z₂ vh g₂ q=>?_
  rw [q.1]
  exact (Runs.holding (ht c z₂ _ X q.2.2 q.2.1)).bindV fun z₃ y vt g₃ hy h₃=>new_slice .none .none vt g₃.rep fun g' t g₄ e=>⟨_,vt,y,rfl,e,g₄.vr hy,h₃⟩
 ·refine eX3 q fun s vt y qA4=>eD4 qA4 fun eA4x3 e hy h=>?_;obtain rfl:=eA4x3
  exact Runs.standAt (rowZ g₅.rep h (g₅.vr hx) fun vs hv h=>fewE h fun hl h=>vInt (C:=fun vt=>z₅.g.get? s=some { cls:=.type "slice",data:=.fields #[.none,.none,vt] }->_) h hy (fun n t h e=>only h fun hn h=>by
   obtain rfl:=of_decide_eq_true hn
   exact slc_ok (m:=false) hv hl g₅.rep e .none .none (.int (-1) t) (by decide) (fun its r=>by rw [krv_pick];simpa using vrs_rev r) h) e)
end
end
section
open PySem.SeqAt PySem.MeetsSeq
theorem wpAny_unmap {α β:Type} {M:Model} {A:Around} {m:Sem α} {f:α->β} {Q:β->Shared->Prop} {E:Value->Shared->Prop} {s:Shared} (h:wpAny M A (m >>= fun a=>pure (f a)) Q E s):wpAny M A m (fun a s=>Q (f a) s) E s :=
 fun Γ p hΓ=>by have:=h Γ p hΓ;rw [Sem.wp_bind'] at this;exact this
theorem wp_turn {M:Model} {A:Around} {m:Sem Bool} {Q:Value->Shared->Prop} {E:Value->Shared->Prop} {s:Shared} (h:wpAny M A (m >>= fun r=>pure (Value.bool r)) (fun v s'=>∀ r,v=.bool r->Q (.bool (!r)) s') E s):wpAny M A (m >>= fun r=>pure (Value.bool (!r))) Q E s :=
 nE1 (wpAny_mono (wpAny_unmap h) (fun r s' h'=>nF1 (h' r rfl)) fun uu uu x=>x)
noncomputable def NeFact (B:Base):Prop:=∀ (A:Around) (z:Z) (fs:List (Nat×AV)) (v:Value) (b:Array UInt8) (t:Tok) (Q E:Value->Shared->Prop),A.units+10 < cLine->Rep B z->Vr B z (.inst 1 fs) v->Q (.bool true) z.s->wpAny (model B.prog B.w) A (compareOp .NotEq v (.bytes b t)) Q E z.s
noncomputable def isIntV (x:Int) (y:Value):Bool:=match y with
 | .int a _=>a==x
 | _=>false
section
variable {B:Base} {A:Around} {z:Z} {a b:AV} {v u:Value} {Q:Bool->Prop} {Qc E:Value->Shared->Prop}
theorem cell_obj (R:Rep B z) {i:Nat} {p:Addr×Option Addr} (si:(z.σ i).isSome=true) (hp:z.ρ i=some p):∃ o,z.s.heap.get? p.1=some o/\o.cls≠.type "tuple":=by
 obtain ⟨c,hc⟩:=Option.isSome_iff_exists.mp si
 have hc:=R.cell i c p hc hp
 cases c with
 | list vs=>exact hc.2.elim fun uu h=>h.elim fun uu h=>⟨_,h.1,by simp⟩
 | dict kd es ep=>exact hc.2.elim (fun h=>h.2.2.elim fun uu h=>h.1.elim fun o h=>h.elim fun uu h=>⟨o,h.1,by rw [h.2.1.1];simp⟩) fun h=>h.2.elim fun uu h=>h.elim fun uu h=>⟨_,h.1,by simp⟩
 | inst c fs=>exact Exists.elim hc fun uu h=>h.elim fun uu h=>h.elim fun uu h=>⟨_,h.2.1,nofun⟩
theorem vr_none (hv:Vr B z a v):(v==.none)=isK 0 a:=by
 cases a <;> first | exact (congrArg (·==Value.none) hv) | exact (hv.elim fun uu e=>congrArg (·==Value.none) e) | exact (hv.elim fun uu e=>congrArg (·==Value.none) e.2) | exact (hv.elim fun uu e=>e.elim fun uu e=>e.elim fun uu e=>congrArg (·==Value.none) e.1) | exact (hv.elim fun uu e=>e.elim fun uu e=>e.elim fun uu e=>e.elim fun uu e=>congrArg (·==Value.none) e.1) | exact (hv.elim fun uu e=>e.elim fun uu e=>congrArg (·==Value.none) e.1)
theorem is_ok (h:isW a b z.σ Q) (R:Rep B z) (hv:Vr B z a v) (hu:Vr B z b u) (hQ:∀ b,Q b->Qc (.bool b) z.s):wpAny (model B.prog B.w) A (compareOp .Is v u) Qc E z.s:=by
 refine either h (fun uu h=>cellA (C:=fun a=>Vr B z a v->_) h (fun i h hv=>cellA (C:=fun b=>Vr B z b u->_) h (fun j h hu=>?_) hu) hv) fun uu h=>vNone (C:=fun u=>wpAny (model B.prog B.w) A (compareOp .Is v u) Qc E z.s) h hu fun h=>is_none_gen (vr_none hv▸hQ _ h)
 obtain ⟨p,hp,rfl⟩:=hv
 obtain ⟨q,hq,rfl⟩:=hu
 by_cases e:i=j
 ·subst e
  obtain rfl:=oJ (hp.symm.trans hq)
  exact wpAny_is_ref_self (hQ _ ((decide_eq_true (rfl:i=i))▸h.2.2))
 ·exact (cell_obj R h.1 hp).elim fun oi ei=>(cell_obj R h.2.1 hq).elim fun oj ej=>wpAny_is_ref_other (fun e'=>e (R.inj i j p q p.1 hp hq (.inl rfl) (.inl e'))) ei.1 ej.1 ei.2 (hQ _ (decide_eq_false e▸h.2.2))
theorem inAs_spec {x:Int}:∀ {as:List AV} {r:Bool} {vs:List Value},inAs x as=some r->Vrs B z as vs->(∀ (A:Around) (s:Shared) (t:Tok),∀ y∈vs,EqAt A s y (.int x t) (isIntV x y))/\r=vs.any (isIntV x)
 | [],_,[],h,_=>⟨fun uu uu uu uu h=>(nomatch h),(oJ h).symm⟩
 | [],_,_ :: _,_,hv=>hv.elim
 | _ :: _,_,[],_,hv=>hv.elim
 | a :: as,r,w :: vs,h,hv=>bindE h fun t ht h=>condE h fun q e =>
  kInt (C:=fun a w=>(bInt a (fun y=>decide (y=x))||t)=r->(∀ (A:Around) (s:Shared) (t:Tok),∀ y∈w :: vs,EqAt A s y (.int x t) (isIntV x y))/\r=(w :: vs).any (isIntV x)) q hv.1
   (fun i tk e=>⟨fun A s t y hy=>(nZ.mp hy).elim (fun e=>e▸.int_int _ _ _ _) ((inAs_spec ht hv.2).1 A s t y),e.symm.trans ((inAs_spec ht hv.2).2▸congrArg (·||_) (beqd i x).symm)⟩) e
theorem in_ok (h:inW a b z.σ Q) (F:Facts0 B) (hu':A.units+20 < cLine) (R:Rep B z) (hv:Vr B z a v) (hu:Vr B z b u) (hQ:∀ tk b,Q b->Qc (.bool b) (z.put z.s.heap tk).s):wpAny (model B.prog B.w) A (compareOp .In v u) Qc E z.s:=by
 refine either h (fun uu h=>cellA (C:=fun b=>Vr B z b u->_) h (fun i h hu=>cellE h (fun uu uu h=>h.elim) (fun kd es ep hσ h=>only h fun hk h=>?_) fun uu uu uu h=>h.elim) hu) fun uu h=>lstA (C:=fun b=>Vr B z b u->_) h (fun vs h hu=>?_) hu
 ·obtain ⟨p,hp,rfl⟩:=hu
  have hd:=live_ne F R hσ hp
  revert hd
  exact dictK (C:=fun p v=>(p.1==sysModules)=false->wpAny (model B.prog B.w) A (compareOp .In v (.ref p.1)) Qc E z.s) R (R.cell i _ p hσ hp) (nE hk) hv
   (fun l kvs w uu uu hw hk D U hd=>wpAny_in_of hk hd D.mapOf (hQ _ _ ((du_get hw U).isSome▸h)))
   fun l kvs w x uu hw uu hx D U hd=>wpAny_in_heap (tupleKind_room_in1 (nF (nM (by decide:1<=20) _) hu')) hx hd D (hQ _ _ (Option.isSome_map ..▸(dp_get hw U).isSome▸h))
 ·obtain ⟨l,its,k,rfl,e,r⟩:=lst_row R hu
  refine vInt (C:=fun v=>wpAny (model B.prog B.w) A (compareOp .In v (.ref l)) Qc E z.s) h hv fun x t h=>okE h fun c hc h=>?_
  obtain ⟨q1,q2⟩:=inAs_spec hc r
  exact in_listAt (isIntV x) ⟨_,e,rfl,k,rfl⟩ (fun y hy=>q1 _ _ _ y (Array.mem_toList_iff.mpr hy)) (Array.any_toList.symm▸q2▸hQ z.s.toks c h)
theorem keq_hits {A:Around} {fs:List (AV×AV)} {kf:List (U×Value)} (U':DU B.P z.g z.ρ fs kf):∀ {es:List (AV×AV)} {r:Bool} {ke:List (Mine.U×Value)},dictEqZ fs es=some r->DU B.P z.g z.ρ es ke->KeqHits A z.s kf ke r
 | [],_,[],h,_=>oJ h▸.nil
 | [],_,_ :: _,_,D=>D.elim
 | _ :: _,_,[],_,D=>D.elim
 | e :: es,r,kv :: ke,h,D=>by
  have h:(dget fs e.1).casesOn (some false) (fun b=>(dictEqZ fs es).bind fun t=>cond (isK 2 e.2&&isK 2 b) (some (ueq e.2 b&&t)) none)=some r:=h
  have hg:=du_get D.1 U'
  generalize dget fs e.1=o at *
  cases o with
  | none=>exact oJ h▸.miss hg
  | some b =>
   obtain ⟨y,hy,hr⟩:=hg
   refine bindE h fun t ht h=>condE h fun q e'=>e'▸.hit hy ?_ (keq_hits U' ht D.2.2)
   exact band q fun q1 q2=>kInt (C:=fun a v=>EqAt A z.s v y (ueq a b)) q1 D.2.1 fun i tk=>kInt (C:=fun b y=>EqAt A z.s (.int i tk) y (ueq (.int i) b)) q2 hr fun j tj=>.int_int _ _ _ _
theorem eq_ok (h:eqW a b z.σ Q) (F:Facts0 B) (hu':A.units+20 < cLine) (R:Rep B z) (hv:Vr B z a v) (hu:Vr B z b u) (hQ:∀ b,Q b->Qc (.bool b) z.s):wpAny (model B.prog B.w) A (compareOp .Eq v u) Qc E z.s:=by
 refine either h (fun uu h=>cellA (C:=fun a=>Vr B z a v->_) h (fun i h hv=>cellA (C:=fun b=>Vr B z b u->_) h (fun j h hu=>cellE h (fun uu uu h=>h.elim) (fun ki es ep hi h=>cellE h (fun uu uu h=>h.elim) (fun kj fs ep' hj h=>only h fun hk h=>okE h fun r hr h=>?_) fun uu uu uu h=>h.elim) fun uu uu uu h=>h.elim) hu) hv) fun uu h=>okE h fun r hr h=>((eq_val 3 _ _ r hr v u hv hu).1 A z.s R.stays (nF (nM (by decide:3<=20) _) hu')).rc _ _ _ _ (hQ _ h)
 obtain ⟨p,hp,rfl⟩:=hv
 obtain ⟨q,hq,rfl⟩:=hu
 have hp1:=live_ne F R hi hp
 have hq1:=live_ne F R hj hq
 have k0:=nE (Bool.and_eq_true_iff.mp hk).1
 have k1:=nE (Bool.and_eq_true_iff.mp hk).2
 revert hp1 hq1
 refine dictE (C:=fun p=>(p.1==sysModules)=false->_->wpAny (model B.prog B.w) A (compareOp .Eq (.ref p.1) (.ref q.1)) Qc E z.s) R (R.cell i _ p hi hp) (fun l ke uu uu De Ue hp1=>?_) fun l kvs h3=>nomatch k0.symm.trans h3
 refine dictE (C:=fun q=>(q.1==sysModules)=false->wpAny (model B.prog B.w) A (compareOp .Eq (.ref l) (.ref q.1)) Qc E z.s) R (R.cell j _ q hj hq) (fun l' kf uu uu Df Uf hq1=>?_) fun l' kvs h3=>nomatch k1.symm.trans h3
 have l1:=du_length Ue
 have l2:=du_length Uf
 have hu0:A.units < cLine:=nF (nP _ _) hu'
 cases ql:Nat.beq es.length fs.length with
 | true =>
  rw [ql] at hr
  refine keq_eq (r:=r) hp1 hq1 De.dictOf Df.dictOf hu0 (fun uu=>keq_hits Uf hr Ue) ?_
  rw [show (ke.length==kf.length)=true from beq_iff_eq.mpr (l1.trans ((nE ql).trans l2.symm)),Bool.true_and]
  exact hQ _ h
 | false =>
  rw [ql] at hr
  obtain rfl:=oJ hr
  refine keq_eq (r:=false) hp1 hq1 De.dictOf Df.dictOf hu0 (fun e=>absurd (l1.symm.trans (e.trans l2)) (Nat.ne_of_beq_eq_false ql)) ?_
  rw [Bool.and_false]
  exact hQ _ h
theorem ne_ok (h:neW a b Q) (NF:NeFact B) (hu':A.units+20 < cLine) (R:Rep B z) (hv:Vr B z a v) (hu:Vr B z b u) (hQ:∀ b,Q b->Qc (.bool b) z.s):wpAny (model B.prog B.w) A (compareOp .NotEq v u) Qc E z.s :=
 either h (fun uu h=>instA (C:=fun a=>Vr B z a v->_) h (fun c fs h hv=>only h fun hc h=>vBytes (C:=fun u=>wpAny (model B.prog B.w) A (compareOp .NotEq v u) Qc E z.s) h hu fun bs t h=>NF A z fs v _ t Qc E (nF (nM (by decide:10<=20) _) hu') R (nE hc▸hv) (hQ _ h)) hv)
  fun uu h=>okE h fun r hr h=>((eq_val 3 _ _ r hr v u hv hu).1 A z.s R.stays (nF (nM (by decide:3<=20) _) hu')).ne _ _ _ _ (hQ _ h)
theorem cmp_ok {op:CmpOp} (F:Facts0 B) (NF:NeFact B) (h:cmpW op a b z.σ Q) (hu':A.units+20 < cLine) (R:Rep B z) (hv:Vr B z a v) (hu:Vr B z b u) (hQ:∀ tk b,Q b->Qc (.bool b) (z.put z.s.heap tk).s):wpAny (model B.prog B.w) A (compareOp op v u) Qc E z.s:=by
 have hQ0:∀ b,Q b->Qc (.bool b) z.s:=hQ z.s.toks
 cases op
 ·exact eq_ok h F hu' R hv hu hQ0
 ·exact ne_ok h NF hu' R hv hu hQ0
 ·exact vInt2 (C:=fun v u=>wpAny (model B.prog B.w) A (compareOp .Lt v u) Qc E z.s) h hv hu fun i t j s h=>wpAny_lt_int (hQ0 _ h)
 ·exact vInt2 (C:=fun v u=>wpAny (model B.prog B.w) A (compareOp .LtE v u) Qc E z.s) h hv hu fun i t j s h=>PyProof.Rows.le_int (hQ0 _ h)
 ·exact vInt2 (C:=fun v u=>wpAny (model B.prog B.w) A (compareOp .Gt v u) Qc E z.s) h hv hu fun i t j s h=>SiftDown.gt_int (hQ0 _ h)
 ·exact vInt2 (C:=fun v u=>wpAny (model B.prog B.w) A (compareOp .GtE v u) Qc E z.s) h hv hu fun i t j s h=>PyProof.Rows.ge_int (hQ0 _ h)
 ·exact is_ok h R hv hu hQ0
 ·exact wp_turn (is_ok (Q:=fun r=>Q (!r)) (Qc:=fun v s'=>∀ r,v=.bool r->Qc (.bool (!r)) s') h R hv hu fun b h r e=>Value.bool.inj e▸hQ0 _ h)
 ·exact in_ok h F hu' R hv hu hQ
 ·exact wp_turn (in_ok (Q:=fun r=>Q (!r)) (Qc:=fun v s'=>∀ r,v=.bool r->Qc (.bool (!r)) s') h F hu' R hv hu fun tk b h r e=>Value.bool.inj e▸hQ tk _ h)
end
section
variable {Y:Sys} {ns:Names} {p:Pos}
theorem ev_cmp {a0 b0:Expr} {a b:E} {op:CmpOp} (F:Facts0 Y.B) (NF:NeFact Y.B) (ha:EvOk Y ns a0 a) (hb:EvOk Y ns b0 b) (hm:behindInMarks op b0=false):EvOk Y ns (.Compare a0 [op] [b0] p) (.cmp op a b)/\TrOk Y ns (.Compare a0 [op] [b0] p) (.cmp op a b):=by
 have core:∀ (c:Ar) (z:Z) (P X:PostV) (Qc E:Value->Shared->Prop),evW Y.cw (.cmp op a b) c.vars z.k z.σ P X->Ctx Y ns c z->(∀ z' r,Go Y.B none_ z z'->P (.bool r) z'.k z'.σ->Qc (.bool r) z'.s)->(∀ z' a e,Go Y.B none_ z z'->ExcR Y.B z.N z' a e->X a z'.k z'.σ->E (.ref e) z'.s) ->
   wpAny (model Y.B.prog Y.B.w) c.A (eval a0 c.env) (fun v s₁=>wpAny (model Y.B.prog Y.B.w) c.A (eval b0 c.env) (fun u s₂=>wpAny (model Y.B.prog Y.B.w) c.A (compareOp op v u) Qc E s₂) E s₁) E z.s:=fun c z P X Qc E hw K hQ hX =>
  ha c z _ X hw K _ E (fun z₁ v g₁ q=>q.elim fun x q=>hb c z₁ _ X q.2 (K.go g₁) _ E (fun z₂ u g₂ q'=>q'.elim fun y q' =>
   cmp_ok F NF q'.2 (line_units ((K.go g₁).go g₂).cx) g₂.rep (g₂.vr q.1) q'.1 fun tk r h=>hQ (z₂.put z₂.s.heap tk) r ((g₁.then g₂).then (Go.tok g₂.rep tk)) h) fun z' a e g x=>hX z' a e (g₁.then g) (x.older g₁.size)) hX
 exact ⟨fun c z Q X hw K Qc E hQ hX=>wpAny_Compare1 (core c z Q X Qc E hw K (fun z' r g h=>hQ z' _ g ⟨.bool r,rfl,h⟩) hX) hm,fun c z P Q X hw hP K Qc E hQ hX=>wpAny_isTrue_Compare1 (core c z P X _ E hw K (fun z' r g h=>wpAny_truthy_bool (hQ z' r g (hP _ _ _ h))) hX) hm⟩
end
end
section
open PySem.SeqAt PySem.MeetsSeq PySem.Builtin
section
variable {prog:Program} {w:World} {A:Around} {E:Value->Shared->Prop} {h:Heap} {g:Array GenState} {d:Drawn} {tk:Nat} {os:OsState} {C N x:Addr} {mN:Str->Option Value}
variable {nm q:Str} {bs:List Value} {hdct:Bool} {sn:List Str} {sub:List Value} {ab:Bool} {col:Option Bool} {dd:Option Addr} {k0 k1 k2 k3 k5:Option Value} {newId:String} {o:Obj} {b:Array UInt8} {t:Tok}
theorem objEq_bytes {M:Model} {s:Shared} {Q:Fin->Shared->Prop} (hq:Q (.done (.ret .notImplemented)) s):wpAny M A (Builtin.«object.__eq__» ⟨[.ref x,.bytes b t],[]⟩) Q E s:=by
 skip
 repeat (first | with_reducible refine wpAny_of_eq (rfl:isSame (.ref x) (.bytes b t)=pure false) ?_ | wp_step)
 exact hq
theorem special_eq_bytes (hx:h.get? x=some o) (hc:o.cls=.ref C) (hC:h.get? C=some (excClassObj nm q C N bs [.type "object"] hdct sn sub ab col dd k0 k1 k2 k3 k5 newId)) (hn:h.Ns N mN) (he:mN "__eq__"=none) {Q:Option Value->Shared->Prop} (hq:Q (some .notImplemented) ⟨h,g,d,tk,os⟩) :
  wpAny (model prog w) A (callSpecialIfBound? (.ref x) "__eq__" [.bytes b t]) Q E ⟨h,g,d,tk,os⟩ :=
 wpAny_callSpecialIfBound?_inst hx hc hC hn he F.cmp_object.mro F.cmp_object.eq (wpAny_call (codeAny_call_builtin F.cmp_object.eq.plain F.cmpEntry_eq
  (wpAny_check_slot_inst F.cmpKind_eq F.cmpSplit_eq (F.cmpArgs_eq _ _) F.cmp_object.hasObject hx hc hC (objEq_bytes hq))))
theorem objNe_bytes (hx:h.get? x=some o) (hc:o.cls=.ref C) (hC:h.get? C=some (excClassObj nm q C N bs [.type "object"] hdct sn sub ab col dd k0 k1 k2 k3 k5 newId)) (hn:h.Ns N mN) (he:mN "__eq__"=none) (hu:A.units < cLine) {Q:Fin->Shared->Prop}
  (hq:Q (.done (.ret .notImplemented)) ⟨h,g,d,tk,os⟩):wpAny (model prog w) A (Builtin.«object.__ne__» ⟨[.ref x,.bytes b t],[]⟩) Q E ⟨h,g,d,tk,os⟩:=by
 skip
 repeat (first | with_reducible refine wpAny_cRoomFor hu ?_ | with_reducible refine special_eq_bytes hx hc hC hn he ?_ | wp_step)
 exact hq
theorem tryNe_bytes (hx:h.get? x=some o) (hc:o.cls=.ref C) (hC:h.get? C=some (excClassObj nm q C N bs [.type "object"] hdct sn sub ab col dd k0 k1 k2 k3 k5 newId)) (hn:h.Ns N mN) (he:mN "__eq__"=none) (hne:mN "__ne__"=none) (hu:A.units+1 < cLine) {Q:Option Value->Shared->Prop} (hq:Q none ⟨h,g,d,tk,os⟩) :
  wpAny (model prog w) A (tryCompare (.ref x) "__ne__" (.bytes b t)) Q E ⟨h,g,d,tk,os⟩:=by
 dsimp only [tryCompare]
 refine nE1 (wpAny_callSpecialIfBound?_inst hx hc hC hn hne F.cmp_object.mro F.cmp_object.ne (wpAny_call (codeAny_call_builtin F.cmp_object.ne.plain F.cmpEntry_ne
  (wpAny_check_slot_inst F.cmpKind_ne F.cmpSplit_ne (F.cmpArgs_ne _ _) F.cmp_object.hasObject hx hc hC (objNe_bytes (A:=A.in1) hx hc hC hn he hu ?_)))))
 exact nF1 hq
theorem sub_bytes_ref (C:Addr):isSubtype (.type "bytes") (.ref C)=pure false:=by
 rw [isSubtype_type]
 kernel_rfl
theorem bytes_ne_ref (hx:h.get? x=some o) (hc:o.cls=.ref C) (hC:h.get? C=some (excClassObj nm q C N bs [.type "object"] hdct sn sub ab col dd k0 k1 k2 k3 k5 newId)) {M:Model} {Q:Fin->Shared->Prop} (hq:Q (.done (.ret .notImplemented)) ⟨h,g,d,tk,os⟩) :
  wpAny M A (Builtin.«bytes.__ne__» ⟨[.bytes b t,.ref x],[]⟩) Q E ⟨h,g,d,tk,os⟩:=by
 show wpAny M A (isInstance (.ref x) (.type "bytes") >>= fun r=>_) _ E _
 refine nE1 ?_
 unfold isInstance
 refine nE1 (wpAny_typeOf_ref hx ?_)
 rw [hc]
 refine wpAny_isSubtype_exc hC ?_
 rw [show (Value.ref C :: [Value.type "object"]).contains (.type "bytes")=false by rw [List.contains_cons];simp]
 repeat wp_step
 exact hq
theorem ne_inst_bytes (hx:h.get? x=some o) (hc:o.cls=.ref C) (hC:h.get? C=some (excClassObj nm q C N bs [.type "object"] hdct sn sub ab col dd k0 k1 k2 k3 k5 newId)) (hn:h.Ns N mN) (he:mN "__eq__"=none) (hne:mN "__ne__"=none) (hu:A.units+1 < cLine) {Q:Value->Shared->Prop} (hq:Q (.bool true) ⟨h,g,d,tk,os⟩) :
  wpAny (model prog w) A (compareOp .NotEq (.ref x) (.bytes b t)) Q E ⟨h,g,d,tk,os⟩:=by
 unfold compareOp
 have hT:(⟨h,g,d,tk,os⟩:Shared).TypeIs (.bytes b t) "bytes":=rfl
 rcases hi:cmpInfo CmpOp.NotEq with ⟨sym,f,r⟩
 have e:(sym,f,r)=(("!=","__ne__","__ne__"):String×Str×Str):=hi.symm.trans cmpInfo_NotEq
 cases e
 have one:oneThing? .NotEq (.ref x) (.bytes b t)=none:=by first | rfl | (unfold oneThing?;rfl) | simp [oneThing?]
 simp only [richCompare,hi,one]
 try with_reducible refine nG1 ?_
 refine nE1 (wpAny_cRoomFor (Nat.lt_of_succ_lt hu) ?_)
 refine nE1 (wpAny_typeOf_ref hx ?_)
 rw [hc]
 refine nE1 (wpAny_typeOf hT ?_)
 rw [show (Value.ref C != Value.type "bytes")=true by simp]
 simp only [if_true]
 refine nE1 (wpAny_of_eq (sub_bytes_ref C) ?_)
 simp only [Bool.false_eq_true,if_false,Bool.not_false,if_true]
 refine nE1 (m:=tryCompare (.ref x) _ _) (tryNe_bytes hx hc hC hn he hne hu ?_)
 refine nE1 (m:=tryCompare (.bytes b t) _ _) (wpAny_tryCompare_declines hT FB.slot_bytes_ne ?_)
 refine wpAny_call (codeAny_call_builtin FB.slot_bytes_ne.plain FB.entry_bytes_ne (FB.slot_bytes_ne.check _ _ _ _ _ _ _ _ hT (FB.args_bytes_ne_2 _ _) (bytes_ne_ref hx hc hC ⟨rfl,?_⟩)))
 exact nE1 (wpAny_rule (nE1 (wpAny_of_eq (rfl:isSame (.ref x) (.bytes b t)=pure false) (nF1 hq))))
end
end
section
open PySem.SeqAt PySem.MeetsSeq
theorem cav_ok {P:AV->Prop} {c:Const} (h:okC c=true) (p:P (cav c)):c.casesOn (P .none) (fun b=>P (.bool b)) (fun i=>P (.int i)) f1 f2 (fun s=>P (.str s)) (fun b=>P (.bytes b)) False:=by
 cases c <;> first | exact p | exact ff h
theorem stored_nodup {kvs:List (U×Value)} {k:U} {v:Value} (h:(kvs.map (·.1)).Nodup):((stored kvs k v).map (·.1)).Nodup:=by
 unfold stored
 by_cases q:(kvs.any fun kv=>decide (kv.1=k))=true
 ·rw [if_pos q,List.map_map]
  exact (List.map_congr_left (l:=kvs) fun kv uu=>(by show (if kv.1=k then (kv.1,v) else kv).1=kv.1;split <;> rfl:((fun x:U×Value=>x.1) ∘ fun kv=>if kv.1=k then (kv.1,v) else kv) kv=kv.1))▸h
 ·rw [if_neg q,List.map_append,List.nodup_append]
  refine ⟨h,nB1.mpr ⟨nofun,.nil⟩,fun a ha b hb e=>q ?_⟩
  refine eX1 (List.mem_map.mp ha) fun kv qA0=>eD2 qA0 fun hkv e1=>?_
  exact List.any_eq_true.mpr ⟨kv,hkv,decide_eq_true (e1.trans (e.trans (List.mem_singleton.mp hb)))⟩
theorem du_merged {P:Places} {g:Heap} {ρ:Rho}:∀ {l es:List (AV×AV)} {kvs acc:List (U×Value)},DU P g ρ es acc->(acc.map (·.1)).Nodup->DU P g ρ l kvs->DU P g ρ (l.foldl (fun es p=>dput es p.1 p.2) es) (merged acc kvs)
 | [],_,[],_,D,_,_=>D
 | [],_,_ :: _,_,_,_,h=>h.elim
 | _ :: _,_,[],_,_,_,h=>h.elim
 | _ :: _,_,_ :: _,_,D,hn,h=>du_merged (es:=dput _ _ _) (acc:=stored _ _ _) (du_put h.1 h.2.1 D hn) (stored_nodup hn) h.2.2
theorem kinds_merged {kd:Nat}:∀ {l es:List (AV×AV)},(∀ e∈es,keyKind e.1=kd)->(∀ e∈l,keyKind e.1=kd)->∀ e∈l.foldl (fun es p=>dput es p.1 p.2) es,keyKind e.1=kd
 | [],_,h,_=>h
 | p :: l,_,h1,h2=>kinds_merged (es:=dput _ _ _) (l:=l) (kinds_put (h2 p (.head _)) h1) fun e he=>h2 e (.tail _ he)
noncomputable def dpairs (env:Env) (p:Pos):List (Option Expr)->List Expr->List (Sem Value×Sem Value)
 | [],_=>[]
 | k :: ks,vs=>k.casesOn [] fun k=>vs.casesOn [] fun v vs=>(eval k env,do let x <- eval v env;PySem.standAt p;Pure.pure x) :: dpairs env p ks vs
theorem keysAre_cons {c:Const} {cs:List Const} {ks:List (Option Expr)} {C:List (Option Expr)->Prop} (h:keysAre (c :: cs) ks=true) (f:∀ n p r,okC c=true->keysAre cs r=true->C (some (.Constant c n p) :: r)):C ks :=
 lCons_e h fun k r h=>band h fun h h2=>oSome_e (C:=fun k=>C (k :: r)) h fun e h=>eConstant_e (C:=fun e=>C (some e :: r)) h fun d n p h=>band h fun h1 h3=>dec_e (C:=fun d=>C (some (.Constant d n p) :: r)) h1 (f n p r h3 h2)
theorem dpairs_shape {env:Env} {p:Pos}:∀ {cs:List Const} {ks:List (Option Expr)} {vs:List Expr},keysAre cs ks=true->vs.length=cs.length ->
  (evalEachOpt ks env).zip ((evalEach vs env).map fun v=>do let x <- v;PySem.standAt p;Pure.pure x)=(dpairs env p ks vs).map (fun p=>(some p.1,p.2))/\(dpairs env p ks vs).length=cs.length
 | [],ks,[],h,_=>lNil_e (C:=fun ks=>_=(dpairs env p ks []).map _/\(dpairs env p ks []).length=0) h ⟨by cases ks <;> first | rfl | exact ff h,rfl⟩
 | [],_,_ :: _,_,h=>nomatch h
 | _ :: _,_,[],_,h=>nomatch h
 | c :: cs,ks,v :: vs,h,hl=>keysAre_cons (C:=fun ks=>(evalEachOpt ks env).zip ((evalEach (v :: vs) env).map fun v=>do let x <- v;PySem.standAt p;Pure.pure x)=(dpairs env p ks (v :: vs)).map (fun p=>(some p.1,p.2))/\(dpairs env p ks (v :: vs)).length=cs.length+1) h
   fun n q r uu h=>⟨congrArg (_ :: ·) (dpairs_shape h (Nat.succ.inj hl)).1,congrArg (·+1) (dpairs_shape h (Nat.succ.inj hl)).2⟩
section
variable {Y:Sys} {ns:Names} {p:Pos}
theorem AllOk.pairs {kd:Nat} (h3:kd < 3):∀ {es0:List Expr} {es:E} {cs:List Const} {ks:List (Option Expr)},AllOk Y ns es0 es->keysAre cs ks=true->es0.length=cs.length->(∀ c∈cs,keyKind (cav c)=kd)->∀ (c:Ar) (z:Z) (Q X:PostV) (p:Pos),evW Y.cw es c.vars z.k z.σ Q X->Ctx Y ns c z ->
  Runs Y.B c.A z (evalPairs (dpairs c.env p ks es0)) (fun z' ps=>∃ as kvs,Carries (uKind Y.B.prog Y.B.w) ps kvs/\DU Y.B.P z'.g z'.ρ ((cs.map cav).zip as) kvs/\Q (.tup as) z'.k z'.σ) X
 | [],_,[],ks,h,hk,_,_,c,z,Q,X,p,hw,K=>fun Qc E hQ uu=>lNil_e (C:=fun ks=>wpAny (model Y.B.prog Y.B.w) c.A (evalPairs (dpairs c.env p ks [])) Qc E z.s) hk (evalPairs_nil (hQ z [] (Go.refl K.rep) ⟨[],[],trivial,trivial,(h▸hw:evW Y.cw .nil c.vars z.k z.σ Q X)⟩))
 | [],_,_ :: _,_,_,_,h,_,_,_,_,_,_,_,_=>nomatch h
 | _ :: _,_,[],_,_,_,h,_,_,_,_,_,_,_,_=>nomatch h
 | e0 :: es0,es,d :: cs,ks,h,hk,hl,hkd,c,z,Q,X,p,hw,K=>fun Qc E hQ hX=>by
  obtain ⟨e,es',rfl,he,_,_,h⟩:=h
  refine keysAre_cons (C:=fun ks=>wpAny (model Y.B.prog Y.B.w) c.A (evalPairs (dpairs c.env p ks (e0 :: es0))) Qc E z.s) hk fun n q r hd hk=>?_
  refine evalPairs_cons (const_val (P:=fun a=>a=cav d) (cav_ok (P:=fun a=>a=cav d) hd rfl) fun tk a kv ea hkv=>?_)
  subst ea
  have g₁:Go Y.B none_ z (z.put z.s.heap tk):=Go.tok K.rep tk
  refine nE1 (he c (z.put z.s.heap tk) _ X hw (K.go g₁) _ E (fun z₂ v g₂ q=>q.elim fun a q=>?_) fun z' a e g x=>hX z' a e (g₁.then g) (x.older g₁.size))
  refine nE1 (wpAny_standAt (nF1 ?_))
  have g₁₂:=g₁.then g₂
  refine h.pairs h3 hk (Nat.succ.inj hl) (fun x hx=>hkd x (.tail _ hx)) c z₂ _ X p q.2 (K.go g₁₂) _ E (fun z₃ ps g₃ q'=>q'.elim fun as q'=>q'.elim fun kvs q'=>?_) fun z' a e g x=>hX z' a e (g₁₂.then g) (x.older g₁₂.size)
  refine eX1 (kind_lt ((hkd d (.head _)).symm▸h3:keyKind (cav d) < 3)) fun u hu=>?_
  exact hQ z₃ ((kv,v) :: ps) (g₁₂.then g₃) ⟨a :: as,(u,v) :: kvs,⟨isU_of hu hkv,rfl,q'.1⟩,⟨hu,g₃.vr q.1,q'.2.1⟩,q'.2.2⟩
theorem new_dict0 {B:Base} {A:Around} {z:Z} {Q X:PostV} {kd:Nat} (R:Rep B z) (h4:kd < 4) (hq:∀ ep,Q (.cell z.k) (z.k+1) (upd z.σ z.k (.dict kd [] ep))):Runs B A z newDict (VEnd B Q) X:=fun Qc E hQ uu=>by
 have e:(z.s.heap.push { cls:=.type "dict",data:=.dict #[] }).get? z.N=some { cls:=.type "dict",data:=.dict #[] }:=Heap.get?_push_size _ rfl
 refine wpAny_newObj_type (hQ ((z.put (z.s.heap.push { cls:=.type "dict",data:=.dict #[] }) z.s.toks).more (z.N,none) (.dict kd [] 0)) (.ref z.N) (Go.made R (fun b o e=>Heap.get?_push_of_some _ e) (push_le _ _) (fun a ha=>nG (at1 ha).symm) z.s.toks ⟨rfl,?_⟩) ⟨.cell z.k,⟨_,if_pos rfl,rfl⟩,hq 0⟩) (nV _)
 rcases Nat.lt_or_ge kd 3 with h | h
 ·exact .inl ⟨nJ h,(fun e he=>nomatch he),[],⟨_,#[],e,⟨rfl,rfl,rfl⟩,rfl,(fun e he=>absurd he (Array.not_mem_empty e)),.nil,.nil⟩,trivial⟩
 ·exact .inr ⟨Nat.le_antisymm (Nat.le_of_lt_succ h4) h,[],#[],e,rfl,.nil,trivial⟩
theorem ev_dct {kd:Nat} {ks0:List (Option Expr)} {ks:List Const} {vs0:List Expr} {vs:E} (hvs:AllOk Y ns vs0 vs) (hk:keysAre ks ks0=true) (hl:vs0.length=ks.length) (hl2:ks.length < 16) (h4:kd < 4):EvOk Y ns (.Dict ks0 vs0 p) (.dct kd ks vs):=fun c z Q X hw K=>only hw fun hall hw=>by
 have hkind:∀ c∈ks,keyKind (cav c)=kd:=fun c hc=>nE (nC1.mp hall c hc)
 cases ks with
 | nil =>
  cases vs0 with
  | cons=>exact nomatch hl
  | nil =>
   obtain rfl:=hvs
   refine lNil_e (C:=fun ks0=>Runs Y.B c.A z (eval (.Dict ks0 [] p) c.env) (VEnd Y.B Q) X) hk ?_
   show Runs Y.B c.A z (PySem.standAt p >>= fun uu=>newDict) (VEnd Y.B Q) X
   exact Runs.standAt (new_dict0 K.rep h4 hw)
 | cons d ks =>
  have h3:kd < 3:=by
   refine keysAre_cons (C:=fun uu=>kd < 3) hk fun n q r hd uu=>?_
   rw [<- hkind d (.head _)]
   rw [<- hkind d (.head _)] at h4
   cases d <;> first | exact ff hd | exact nC rfl | exact absurd h4 (by decide:¬ 4 < 4)
  refine eD2 (dpairs_shape (env:=c.env) (p:=p) hk hl) fun e1 e2=>?_
  intro Qc E hQ hX
  refine wpAny_Dict_pairs (knd:=uKind Y.B.prog Y.B.w) e1 (fun e=>nomatch e2.symm.trans (congrArg List.length e)) (e2▸Nat.le_of_lt_succ hl2) ?_
  have g₁:=Go.push K.rep (h':=z.s.heap.push { cls:=.type "dict",data:=.dict #[] }) (fun b o e=>Heap.get?_push_of_some _ e) (push_le _ _) z.s.toks
  have P₁:=(Priv.new K.rep (nB z.N)).put (z.s.heap.push { cls:=.type "dict",data:=.dict #[] }) z.s.toks
  have lt₁:z.N < (z.put (z.s.heap.push { cls:=.type "dict",data:=.dict #[] }) z.s.toks).N:=Heap.lt_size (Heap.get?_push_size _ rfl:_=some ({ cls:=.type "dict",data:=.dict #[] }:Obj))
  refine hvs.pairs h3 hk hl hkind c (z.put (z.s.heap.push { cls:=.type "dict",data:=.dict #[] }) z.s.toks) _ X p hw (K.go g₁) _ E (fun z₂ ps g₂ q=>q.elim fun as q=>q.elim fun kvs q=>?_) fun z' a e g x=>hX z' a e (g₁.then g) (x.older g₁.size)
  have P₂:Priv Y.B z₂ z.N:=P₁.step lt₁ g₂ id
  refine ⟨kvs,q.1,⟨_,#[],0,g₂.same.plain (Heap.get?_push_size _ rfl) (P₁.out id) (nf_of rfl rfl),⟨rfl,rfl,rfl⟩,rfl,(fun e he=>absurd he (Array.not_mem_empty e)),.nil,.nil⟩,fun h' D' hs=>?_⟩
  have g₃:Go Y.B (·=z.N) z₂ (z₂.put h' (z₂.s.toks+ps.length)):=Go.mine g₂.rep (Same.of_but hs) (fun a ha uu=>ha▸P₂) (nG hs.1.symm) _
  refine eX1 D'.dictAt fun ep D'=>?_
  have g₄:=Go.adopt (p:=(z.N,none)) (c:=.dict kd ((((d :: ks).map cav).zip as).foldl (fun es p=>dput es p.1 p.2) []) ep) g₃.rep (fun a ha=>at1 ha▸P₂.put h' _)
   ⟨rfl,.inl ⟨nJ h3,kinds_merged (fun e he=>nomatch he) (fun e he=>(List.mem_map.mp (List.of_mem_zip he).1).elim fun c q=>q.2▸hkind c q.1),_,D',du_merged (es:=[]) (acc:=[]) trivial .nil q.2.1⟩⟩
  have far:∀ {a:Nat},a < z.N->¬ a=z.N:=nH
  exact hQ _ _ (((g₁.then g₂).trans g₃ (fun uu q=>q) fun a ha q=>absurd q (far ha)).trans g₄ (fun uu q=>q) fun a ha q=>absurd (at1 q) (far ha)) ⟨.cell z₂.k,⟨_,if_pos rfl,rfl⟩,q.2.2 ep⟩
end
end
section
open PySem.SeqAt PySem.MeetsSeq
set_option maxRecDepth 100000 in
theorem nms_nodup:((List.range 81).map nm).Nodup:=by decide +kernel
theorem nm_inj {x y:Nat} (hx:x < 81) (hy:y < 81) (h:nm x=nm y):x=y :=
 have e:∀ {x:Nat},x < 81->((List.range 81).map nm)[x]?=some (nm x):=fun h=>(List.getElem?_map ..).trans (congrArg (Option.map nm) (List.getElem?_range h))
 (List.getElem?_inj ((nY (as:=List.range 81) nm).symm▸hx) nms_nodup).mp ((e hx).trans (h▸(e hy).symm))
theorem isStr_nm {e:DictEntry} {x y:Nat} {t:Tok} (he:e.key=.str (nm y) t) (hy:y < 81) (hx:x < 81):e.key.isStr (nm x)=Nat.beq y x:=by
 rw [he]
 show (nm y==nm x)=_
 by_cases q:y=x
 ·subst q;rw [beq_self_eq_true,Nat.beq_refl]
 ·rw [beq_false_of_ne fun e=>q (nm_inj hy hx e),Bool.eq_false_iff.mpr fun e=>q (nE e)]
theorem refKey_str {e:DictEntry} {x:Str} {t:Tok} (he:e.key=.str x t):e.refKey=false:=by unfold DictEntry.refKey;rw [he]
section
variable {P:Places} {g:Heap} {ρ:Rho}
theorem vrf_norefs:∀ {fs:List (Nat×AV)} {es:List DictEntry},VRf P g ρ fs es->es.any (·.refKey)=false
 | [],[],_=>rfl
 | [],_ :: _,h=>h.elim
 | _ :: _,[],h=>h.elim
 | _ :: _,_ :: _,h=>Bool.or_eq_false_iff.mpr ⟨h.2.1.elim fun t e=>refKey_str e,vrf_norefs h.2.2.2⟩
theorem getL_vrf {x:Nat} (hx:x < 81):∀ {fs:List (Nat×AV)} {es:List DictEntry},VRf P g ρ fs es->∃ w,getL (nm x) es=some w/\GetR P g ρ (fget fs x) w
 | [],[],_=>⟨none,rfl,rfl⟩
 | [],_ :: _,h=>h.elim
 | _ :: _,[],h=>h.elim
 | f :: fs,e :: es,h=>h.2.1.elim fun t he=>by
  unfold getL fget
  rw [List.find?_cons,isStr_nm he h.1 hx]
  cases q:Nat.beq f.1 x with
  | true=>exact ⟨some e.val,rfl,e.val,rfl,h.2.2.1⟩
  | false =>
   rw [List.any_cons,refKey_str he,Bool.false_or]
   exact getL_vrf hx h.2.2.2
end
structure ClsFacts (B:Base):Prop where
 inK:B.K.In B.hb
 own:∀ c x,fieldOk c x=true->plainGet B.K (B.P.ca c) (nm x)=true/\hasDictIn B.K (B.P.ca c)=true/\∃ attr,findIn B.K (.ref (B.P.ca c)) (nm x)=some attr/\noGet B.K attr=true
 prop:∀ c x f,propOf c x=some f->plainGet B.K (B.P.ca c) (nm x)=true/\hasDictIn B.K (B.P.ca c)=true/\∃ p rest,findIn B.K (.ref (B.P.ca c)) (nm x)=some (some (.ref p))/\specialIn B.K (.ref p) "__get__"=some (some (.builtin "property.__get__"))/\takesIn B.K (.ref p)=some true/\recIn B.K p "property"=some (.ref (B.P.fa f) :: rest)
 meth:∀ c x f,methOf c x=some f->plainGet B.K (B.P.ca c) (nm x)=true/\hasDictIn B.K (B.P.ca c)=true/\findIn B.K (.ref (B.P.ca c)) (nm x)=some (some (.ref (B.P.fa f)))/\isFn B.K (.ref (B.P.fa f))=true
 set:∀ c x,fieldOk c x=true->findIn B.K (.ref (B.P.ca c)) "__setattr__"=some (some (.builtin "object.__setattr__"))/\plainOver B.K (B.P.ca c)=true/\takerIn B.K (B.P.ca c) (nm x)=some none
 make:∀ c g,initOf c=some g->makesIn B.K (B.P.ca c)=true/\findIn B.K (.ref (B.P.ca c)) "__init__"=some (some (.ref (B.P.fa g)))/\typeIn B.K (.ref (B.P.fa g))=some (.type "function")/\keepIn B.K (.ref (B.P.ca c))=true
theorem ClsFacts.here {B:Base} {z:Z} (CF:ClsFacts B) (R:Rep B z):B.K.In z.s.heap:=CF.inK.keeps fun b o e=>R.stays b o (R.base b o e)
structure CxC (B:Base) (A:Around) (fs:List Env) (n:Nat) (z:Z):Prop where
 frames:A.frames=some fs
 handled:A.handled=none
 depth:A.depth+20*n<=600
 units:A.units+100*n<=5000
 lie:Frames B fs z
 big:B.P.n0<=z.N
noncomputable def CwOk (Y:Sys):Prop:=∀ (A:Around) (fs:List Env) (z:Z) (callee:AV) (args:List AV) (f:Value) (vs:List Value) (Q X:PostV),Y.cw callee args z.k z.σ Q X->CxC Y.B A fs Y.n z->Rep Y.B z->Vr Y.B z callee f->Vrs Y.B z args vs ->
  ∀ R:Result->Shared->Prop,(∀ z' a v,Go Y.B none_ z z'->Vr Y.B z' a v->Q a z'.k z'.σ->R (.ok (.ret v)) z'.s)->(∀ z' a e,Go Y.B none_ z z'->ExcR Y.B z.N z' a e->X a z'.k z'.σ->R (.error (.ref e)) z'.s)->codeAny (model Y.B.prog Y.B.w) A (.call f ⟨vs,[]⟩) R z.s
theorem CxZ.call {B:Base} {A A':Around} {fs:List Env} {n:Nat} {z:Z} (C:CxZ B A fs n z) (h1:A'.frames=A.frames) (h2:A'.handled=A.handled) (h3:A'.depth<=A.depth+10) (h4:A'.units<=A.units+50):CxC B A' fs n z :=
 ⟨h1.trans C.frames,h2.trans C.handled,nA (Nat.add_le_add_right h3 _) (Nat.add_right_comm A.depth (20*n) 10▸C.depth),nA (Nat.add_le_add_right h4 _) (Nat.add_right_comm A.units (100*n) 50▸C.units),C.lie,C.big⟩
theorem blt_handed:(bnames.all fun s=>handedIn (.builtin s))=true:=by decide +kernel
theorem handed_vr {P:Places} {g:Heap} {ρ:Rho}:∀ {a:AV} {v:Value},VR P g ρ a v->handedIn v=true
 | .none,_,h=>(congrArg handedIn h).trans rfl
 | .bool _,_,h=>(congrArg handedIn h).trans rfl
 | .fn _,_,h=>(congrArg handedIn h).trans rfl
 | .cls _,_,h=>(congrArg handedIn h).trans rfl
 | .int _,_,h=>Exists.elim h fun uu e=>(congrArg handedIn e).trans rfl
 | .str _,_,h=>Exists.elim h fun uu e=>(congrArg handedIn e).trans rfl
 | .bytes _,_,h=>Exists.elim h fun uu e=>(congrArg handedIn e).trans rfl
 | .typ _,_,h=>Exists.elim h fun uu e=>(congrArg handedIn e.2).trans rfl
 | .cell _,_,h=>Exists.elim h fun uu e=>(congrArg handedIn e.2).trans rfl
 | .blt _,_,h=>Exists.elim h fun s e=>(congrArg handedIn e.2).trans (nC1.mp blt_handed s (List.mem_of_getElem? e.1))
 | .set _,_,h=>Exists.elim h fun uu e=>e.elim fun uu e=>(congrArg handedIn e.1).trans rfl
 | .tup _,_,h=>Exists.elim h fun uu e=>e.elim fun uu e=>e.elim fun uu e=>(congrArg handedIn e.1).trans rfl
 | .lst _,_,h=>Exists.elim h fun uu e=>e.elim fun uu e=>e.elim fun uu e=>(congrArg handedIn e.1).trans rfl
 | .clo _ _,_,h=>Exists.elim h fun uu e=>e.elim fun uu e=>e.elim fun uu e=>(congrArg handedIn e.1).trans rfl
 | .inst _ _,_,h=>Exists.elim h fun uu e=>e.elim fun uu e=>e.elim fun uu e=>e.elim fun uu e=>(congrArg handedIn e.1).trans rfl
 | .rng _ _ _,_,h=>Exists.elim h fun uu e=>e.elim fun uu e=>e.elim fun uu e=>e.elim fun uu e=>(congrArg handedIn e.1).trans rfl
abbrev InsZ (B:Base) (z:Z) (c:Nat) (fs:List (Nat×AV)) (v:Value):Prop:=InsAt z.s.heap (B.P.ca c) (VRf B.P z.g z.ρ fs) v
section
variable {B:Base} {A:Around} {z:Z}
theorem ins_vr {c:Nat} {fs:List (Nat×AV)} {v:Value} (R:Rep B z) (h:Vr B z (.inst c fs) v):InsZ B z c fs v:=InsAt.mono R.stays h fun uu h=>h
theorem ins_cell {i c:Nat} {fs:List (Nat×AV)} {v:Value} (R:Rep B z) (hσ:z.σ i=some (.inst c fs)) (h:Vr B z (.cell i) v):InsZ B z c fs v :=
 h.elim fun p q=>Exists.elim (R.cell i _ p hσ q.1) fun d e=>e.elim fun es e=>e.elim fun n e=>⟨p.1,d,es,n,q.2,e.2.1,e.2.2.1,e.2.2.2.2⟩
theorem get_field {c x:Nat} {fs:List (Nat×AV)} {v:Value} {Q:AV->Prop} {expr:Bool} {Qc E:Value->Shared->Prop} (CF:ClsFacts B) (R:Rep B z) (I:InsZ B z c fs v) (hx:x < 81) (h:fld c x fs Q)
  (hQ:∀ tk a v,Q a->Vr B z a v->Qc v (z.put z.s.heap tk).s):wpAny (model B.prog B.w) A (getAttr v (nm x) expr) Qc E z.s:=by
 refine eX4 I fun y d es k qA0=>eD4 qA0 fun eA0x4 e1 e2 e3=>?_;obtain rfl:=eA0x4
 refine only h fun hf h=>okE h fun a ha h=>?_
 obtain ⟨q1,q2,attr,q3,q4⟩:=CF.own c x hf
 refine eX1 (getL_vrf hx e3) fun w qA2=>eD2 qA2 fun hw hr=>?_
 refine eX1 (hr.some ha) fun v qA3=>eD2 qA3 fun eA3x1 hr'=>?_;obtain rfl:=eA3x1
 exact get_value (CF.here R) (⟨e1,rfl,rfl,e2⟩:InstAt z.s.heap y (instObj (B.P.ca c) d) (B.P.ca c) (some (PySem.W.dictOf es k))) (plainGet_of q1).1 (findObj_own q2 q3 q4 hw) (handed_vr hr') (hQ _ a v h hr')
end
section
variable {Y:Sys} {ns:Names} {p:Pos} {A:Around} {z:Z} {fs:List Env}
theorem get_ok {a:AV} {x:Nat} {v:Value} {expr:Bool} {Q X:PostV} (CF:ClsFacts Y.B) (CW:CwOk Y) (hx:x < 81) (h:attrW Y.cw a x z.k z.σ Q) (C:CxZ Y.B A fs Y.n z) (R:Rep Y.B z) (hv:Vr Y.B z a v):Runs Y.B A z (getAttr v (nm x) expr) (VEnd Y.B Q) X:=by
 have field:∀ {c fs},InsZ Y.B z c fs v->fld c x fs (fun v=>Q v z.k z.σ)->Runs Y.B A z (getAttr v (nm x) expr) (VEnd Y.B Q) X:=fun I h=>Runs.val R fun Qc E hQ=>get_field CF R I hx h fun tk a v q hv=>hQ tk v ⟨a,hv,q⟩
 refine either h (fun uu h=>cellA (C:=fun a=>Vr Y.B z a v->Runs Y.B A z (getAttr v (nm x) expr) (VEnd Y.B Q) X) h (fun i h hv'=>cellE h (fun uu uu h=>h.elim) (fun uu uu uu uu h=>h.elim) fun c fs' hσ h=>?_) hv) fun uu h=>instA (C:=fun a=>Vr Y.B z a v->Runs Y.B A z (getAttr v (nm x) expr) (VEnd Y.B Q) X) h (fun c fs h hv=>field (ins_vr R hv) h) hv
 cases hp:propOf c x with
 | none=>rw [hp] at h;exact field (ins_cell R hσ hv') h
 | some f =>
  rw [hp] at h
  refine eX4 (ins_cell R hσ hv') fun y d es k qA4=>eD4 qA4 fun eA4x4 e1 e2 e3=>?_;obtain rfl:=eA4x4
  obtain ⟨q1,q2,p,rest,q3,q4,q5,q6⟩:=CF.prop c x f hp
  intro Qc E hQ hX
  have g₁:Go Y.B none_ z (z.put z.s.heap (z.s.toks+1)):=Go.tok R _
  refine get_bind (CF.here R) (⟨e1,rfl,rfl,e2⟩:InstAt z.s.heap y (instObj (Y.B.P.ca c) d) (Y.B.P.ca c) (some (PySem.W.dictOf es k))) (plainGet_of q1).1 (findObj_data ((any_some q2).elim fun cd q=>congrArg Option.isSome q.1) q3 q4 q5) (plainGet_of q1).2 (wpAny_call (prop_get (s:=(z.put z.s.heap (z.s.toks+1)).s) (CF.here g₁.rep) q6 ?_))
  refine CW A.in1 fs (z.put z.s.heap (z.s.toks+1)) (.fn f) [a] (.ref (Y.B.P.fa f)) [.ref y] Q f3 h ((C.go g₁).call rfl rfl (nP _ _) (nM (by decide:1<=50) _)) g₁.rep rfl ⟨hv,trivial⟩ _ (fun z' a v g hr hq=>?_) fun z' a e g hr hx=>hx.elim
  show wpAny _ _ (handedOut v) _ _ _
  rw [handedOut_of (handed_vr hr)]
  exact nF1 (hQ z' v (g₁.then g) ⟨a,hr,hq⟩)
theorem attributeBase_plain {o:Expr} {x:Str} {env:Env} {t:Sem Value} (h:isBare o=false):attributeBase o x env t=t:=by
 cases o with
 | Call f as kw p =>
  cases f with
  | Name x q=>cases as with
   | nil=>cases kw with
    | nil=>exact ff h.symm
    | cons=>rfl
   | cons=>rfl
  | _=>rfl
 | _=>rfl
theorem ev_attr {a0:Expr} {a:E} {x:Nat} (CF:ClsFacts Y.B) (CW:CwOk Y) (ha:EvOk Y ns a0 a) (hb:isBare a0=false) (hx:x < 81):EvOk Y ns (.Attribute a0 (nm x) p) (.attr a x):=fun c z Q X hw K=>by
 show Runs Y.B c.A z (attributeBase a0 (nm x) c.env (eval a0 c.env) >>= fun o=>PySem.standAt p.atName >>= fun uu=>PySem.holding [o] (getAttr o (nm x) true) >>= fun r=>letTemporaryGo a0 o r >>= fun uu=>Pure.pure r) _ _
 rw [attributeBase_plain hb]
 exact (ha c z _ X hw K).bindV fun z₁ b v g₁ hb h=>Runs.standAt ((Runs.holding (get_ok CF CW hx h (K.go g₁).cx g₁.rep hb)).bind fun z₂ r g₂ hr Qc E hQ uu=>nE1 (wpAny_letTemporaryGo (nF1 (hQ z₂ r (Go.refl g₂.rep) hr))))
theorem Go.stand {B:Base} {z:Z} (R:Rep B z) {i c:Nat} {fs:List (Nat×AV)} {p:Addr×Option Addr} (hσ:z.σ i=some (.inst c fs)) (hρ:z.ρ i=some p):∃ g',Go B (At p) z ((z.sg (del z.σ i)).gr g')/\VR B.P g' z.ρ (.inst c fs) (.ref p.1):=by
 refine eX3 (R.cell i _ p hσ hρ) fun d es n qA6=>eD5 qA6 fun e0 e1 e2 hne e3=>?_
 have g₁:Go B none_ z (z.sg (del z.σ i)):=(Go.refl R).less fun j c e=>by
  by_cases q:j=i
  ·exact nn ((if_pos q).symm.trans e)
  ·exact (if_neg q).symm.trans e
 have away:∀ a,At p a->∀ j c q,(z.sg (del z.σ i)).σ j=some c->z.ρ j=some q->¬ At q a:=fun a ha j c q hj hq hb=>by
  obtain rfl:=R.inj j i q p a hq hρ hb ha
  exact nn ((if_pos rfl).symm.trans hj)
 have tab:∀ a,At p a->B.P.tab a=none:=fun a ha=>Option.eq_none_iff_forall_ne_some.mpr fun q e=>(R.tabs a q e).2.1 i p hρ ha
 refine eX1 (Go.freeze g₁.rep (tab _ (.inl rfl)) (away _ (.inl rfl)) e1 (nf_ref rfl)) fun g' qA7=>eD2 qA7 fun g₂ k1=>?_
 refine eX1 (Go.freeze g₂.rep (tab _ (.inr e0)) (away _ (.inr e0)) e2 (nf_of rfl rfl)) fun g'' qA8=>eD2 qA8 fun g₃ k2=>?_
 refine ⟨g'',(g₁.trans g₂ (fun uu q=>q.elim) fun uu uu q=>.inl q).trans g₃ (fun uu q=>q) fun uu uu q=>.inr (q▸e0),p.1,d,es,n,rfl,g₃.gext _ _ k1,k2,vrf_mono (fun b o e=>g₃.gext _ _ (g₂.gext _ _ e)) (fun uu uu e=>e) e3⟩
noncomputable def CwFn (Y:Sys):Prop:=∀ callee args (z:Z) f k σ Q X,Y.cw callee args k σ Q X->Rep Y.B z->Vr Y.B z callee f->∃ a o fd,f=.ref a/\z.g.get? a=some o/\o.data=.func fd
noncomputable def BltOk (Y:Sys):Prop:=∀ (A:Around) (fs:List Env) (z:Z) (i:Nat) (s:String) (args:List AV) (vs:List Value) (Q X:PostV),bltW i args z.k z.σ Q->bnames[i]?=some s->CxZ Y.B A fs Y.n z->Rep Y.B z->Vrs Y.B z args vs->Runs Y.B A z (call (.builtin s) vs) (VEnd Y.B Q) X
noncomputable def TypOk (Y:Sys):Prop:=∀ (A:Around) (fs:List Env) (z:Z) (i:Nat) (s:String) (args:List AV) (vs:List Value) (Q X:PostV),typW i args z.k z.σ Q->tnames[i]?=some s->CxZ Y.B A fs Y.n z->Rep Y.B z->Vrs Y.B z args vs->Runs Y.B A z (call (.type s) vs) (VEnd Y.B Q) X
structure Kit (Y:Sys):Prop where
 f0:Facts0 Y.B
 ne:NeFact Y.B
 cls:ClsFacts Y.B
 run:CwOk Y
 fn:CwFn Y
 blt:BltOk Y
 typ:TypOk Y
theorem run_ok {callee:AV} {args:List AV} {Q X:PostV} {f:Value} {vs:List Value} (CW:CwOk Y) (h:Y.cw callee args z.k z.σ Q X) (C:CxZ Y.B A fs Y.n z) (R:Rep Y.B z) (hf:Vr Y.B z callee f) (hv:Vrs Y.B z args vs):Runs Y.B A z (call f vs) (VEnd Y.B Q) X:=fun Qc E hQ hX =>
 wpAny_call (CW A fs z callee args f vs Q X h (C.call rfl rfl (nP _ _) (nP _ _)) R hf hv _ (fun z' a v g hr hq=>hQ z' v g ⟨a,hr,hq⟩) fun z' a e g hr hx=>hX z' a e g hr hx)
theorem make_ok {c:Nat} {args:List AV} {Q X:PostV} {f:Value} {vs:List Value} (KT:Kit Y) (h:makeW Y.cw c args z.k z.σ Q) (C:CxZ Y.B A fs Y.n z) (R:Rep Y.B z) (hf:Vr Y.B z (.cls c) f) (hv:Vrs Y.B z args vs):Runs Y.B A z (call f vs) (VEnd Y.B Q) X:=fun Qc E hQ hX=>okE h fun gi hgi h=>by
 obtain rfl:=hf
 refine eD4 (KT.cls.make c gi hgi) fun m1 m2 m3 m4=>?_
 have XK:=KT.cls.here R
 let hh:=z.s.heap
 let h2:=(hh.push emptyDict).push (instObj (Y.B.P.ca c) z.N)
 have e0:h2.get? z.N=some emptyDict:=Heap.get?_push_of_some _ (Heap.get?_push_size _ rfl)
 have e1:h2.get? (z.N+1)=some (instObj (Y.B.P.ca c) z.N):=(Heap.size_push (h:=hh) (o:=emptyDict))▸Heap.get?_push_size (h:=hh.push emptyDict) (o:=instObj (Y.B.P.ca c) z.N) rfl
 have hp:∀ a:Nat,At (z.N+1,some z.N) a->z.N<=a:=fun a ha=>ha.elim (fun q=>q▸Nat.le_succ _) fun q=>nG (oJ q)
 have x:Go Y.B none_ z ((z.put h2 z.s.toks).more (z.N+1,some z.N) (.inst c [])):=Go.made R (fun b o e=>Heap.get?_push_of_some _ (Heap.get?_push_of_some _ e)) (nA (push_le _ _) (push_le _ _)) hp z.s.toks ⟨z.N,[],0,rfl,e1,e0,Nat.succ_ne_self _,trivial⟩
 refine wpAny_call (make_core (makes_of XK m1) (looks_findIn XK m2) (fun self=>bind_fn XK self m3) (.inl rfl) ?_)
 refine KT.run (A.under (.builtin "type.__call__" ⟨.ref (Y.B.P.ca c) :: vs,[]⟩)) fs ((z.put h2 z.s.toks).more (z.N+1,some z.N) (.inst c [])) (.fn gi) (.cell z.k :: args) (.ref (Y.B.P.fa gi)) (.ref (z.N+1) :: vs) _ _ h ((C.go x).call rfl rfl (nM (by decide:1<=10) _) (nM (by decide:1<=50) _)) x.rep rfl ⟨⟨(z.N+1,some z.N),if_pos rfl,rfl⟩,x.vrs hv⟩ _ (fun z' a v g' hr hq=>?_) fun z' a e g' hr hx=>hx.elim
 refine vNone (C:=fun v=>InitBack (z.N+1) _ (.ok (.ret v)) z'.s) hq hr fun hq=>⟨rfl,?_⟩
 have hρ':z'.ρ z.k=some (z.N+1,some z.N):=g'.ρext _ _ (if_pos rfl)
 refine either hq (fun h1 hq=>cellE hq (fun uu uu h=>h.elim) (fun uu uu uu uu h=>h.elim) fun c' fs' hσ hq=>only hq fun h2 hq=>?_) fun uu hq=>hQ z' _ (x.then g') ⟨.cell z.k,⟨_,hρ',rfl⟩,hq⟩
 obtain rfl:=nE h2
 exact (Go.stand g'.rep hσ hρ').elim fun g2 q=>hQ ((z'.sg (del z'.σ z.k)).gr g2) _ ((x.then g').trans q.1 (fun uu q=>q) fun a ha hm=>absurd ha (nK.mpr (hp a hm))) ⟨.inst 1 fs',q.2,hq⟩
theorem app_ok {f:AV} {args:List AV} {Q X:PostV} {v:Value} {vs:List Value} (KT:Kit Y) (h:appW Y.cw f args z.k z.σ Q X) (C:CxZ Y.B A fs Y.n z) (R:Rep Y.B z) (hf:Vr Y.B z f v) (hv:Vrs Y.B z args vs):Runs Y.B A z (call v vs) (VEnd Y.B Q) X:=by
 cases f
 all_goals first | exact h.elim | exact run_ok KT.run h C R hf hv | exact make_ok KT h C R hf hv | exact hf.elim fun s e=>e.2▸KT.blt A fs z _ s args vs Q X h e.1 C R hv | exact hf.elim fun s e=>e.2▸KT.typ A fs z _ s args vs Q X h e.1 C R hv
noncomputable def KeepOk (M:Model) (h:Heap) (v:Value):Prop:=∃ k,(k=Keeper.frame∨k=Keeper.machine∨k=Keeper.boundFrame)/\Looks M h (keeperOf v) k
theorem keep_fn {M:Model} {v:Value} (R:Rep Y.B z) (h:∃ a o fd,v=.ref a/\z.g.get? a=some o/\o.data=.func fd):KeepOk M z.s.heap v:=by
 refine eX3 h fun a o fd qA10=>eD3 qA10 fun eA10x3 e2 e3=>?_;obtain rfl:=eA10x3
 refine ⟨.frame,.inl rfl,(Looks.ld (part:=none) (R.stays _ _ e2)).andThen ?_⟩
 rw [e3];exact .now
theorem keeper_ok {f:AV} {args:List AV} {Q X:PostV} {v:Value} {M:Model} (KT:Kit Y) (h:appW Y.cw f args z.k z.σ Q X) (R:Rep Y.B z) (hf:Vr Y.B z f v):KeepOk M z.s.heap v:=by
 cases f
 all_goals first | exact h.elim | exact keep_fn R (KT.fn _ _ z v _ _ _ _ h R hf) | skip
 ·cases hf
  exact okE h fun gi hgi uu=>keeps_K (KT.cls.make _ gi hgi).2.2.2 z.s.heap (KT.cls.here R)
 ·exact hf.elim fun s e=>e.2▸⟨.machine,.inr (.inl rfl),.now⟩
 ·exact hf.elim fun s e=>e.2▸⟨.machine,.inr (.inl rfl),.now⟩
end
end
section
open PySem.SeqAt PySem.MeetsSeq
theorem erase_map {α β:Type} (f:α->β):∀ (l:List α) (j:Nat),(l.map f).eraseIdx j=(l.eraseIdx j).map f
 | [],_=>rfl
 | _ :: _,0=>rfl
 | a :: l,j+1=>congrArg (f a :: ·) (erase_map f l j)
theorem dp_del {P:Places} {g:Heap} {ρ:Rho} {k:AV} {u:List U} (hu:kOf k u):∀ {es:List (AV×AV)} {kvs:List (List U×Addr×Value)},DP P g ρ es kvs->(kvs.map (·.1)).Nodup->∀ {j:Nat} {p:Addr×Value},kvs[j]?=some (u,p)->DP P g ρ (ddel es k) (kvs.eraseIdx j)/\∃ a,dget es k=some a/\VR P g ρ a p.2
 | [],[],_,_,_,_,e=>nomatch e
 | [],_ :: _,h,_,_,_,_=>h.elim
 | _ :: _,[],h,_,_,_,_=>h.elim
 | e :: es,kv :: kvs,D,hn,j,p,hj=>by
  rw [nD1,nB1] at hn
  unfold ddel dget
  rw [keyEq_p D.1 hu]
  cases j with
  | zero =>
   obtain rfl:=oJ hj
   rw [decide_eq_true rfl]
   exact ⟨D.2.2.2,_,rfl,D.2.2.1⟩
  | succ j =>
   rw [decide_eq_false fun q=>hn.1 (List.mem_map.mpr ⟨(u,p),List.mem_of_getElem? hj,q.symm⟩)]
   exact ⟨⟨D.1,D.2.1,D.2.2.1,(dp_del hu D.2.2.2 hn.2 hj).1⟩,(dp_del hu D.2.2.2 hn.2 hj).2⟩
section
variable {P:Places} {prog:Program} {w:World} {g:Heap} {ρ:Rho} {A:Around} {s:Shared}
theorem pop_heap {d a:Addr} {xs:List (List U×Addr×Value)} {k:List U} {Q E:Value->Shared->Prop} {es₀:List (AV×AV)} {key:AV} {b:AV} (hu:A.units+20 < cLine) (hkey:(tupleKind (uKind prog w)).is s.heap k a) (hm:s.heap.DictOfH (tupleKind (uKind prog w)) d xs) (hz:xs.length<=sizeLine)
  (DPx:DP P g ρ es₀ xs) (hK:kOf key k) (hb:dget es₀ key=some b)
  (hQ:∀ h' tk v xs',h'.DictOfH (tupleKind (uKind prog w)) d xs'->DP P g ρ (ddel es₀ key) xs'->Heap.SameBut d s.heap h'->VR P g ρ b v->Q v { s with heap:=h',toks:=tk }):wpAny (model prog w) A (call (.builtin "dict.pop") [.ref d,.ref a]) Q E s:=by
 refine wpAny_call (codeAny_call_builtin PySem.F.slot_dict_pop.plain PySem.F.entry_dict_pop (PySem.F.slot_dict_pop.check _ _ _ _ _ _ _ _ hm.typeIs (PySem.F.args_dict_pop_2 _ _) ?_))
 have hm':=hm
 refine eX3 hm fun o es ep qA0=>eD6 qA0 fun ho hc hd he his hn=>?_
 skip
 refine nE1 ?_
 skip
 refine nE1 (wpAny_notOrdered_dict hm'.typeIs ?_)
 skip
 refine nF1 ?_
 dsimp only [show (keyPart (.ref a)).isSome=false from rfl,Bool.false_eq_true,if_false]
 refine nE1 (wpAny_dictEntries ho hd (nE1 (nF1 ?_)))
 have hne:es.isEmpty=false:=by
  cases q:es.isEmpty with
  | false=>rfl
  | true =>
   rw [Array.isEmpty_iff.mp q] at he
   cases xs with
   | cons=>cases he
   | nil=>cases es₀ <;> first | exact nn hb | exact DPx.elim
 rw [hne]
 simp only [Bool.false_eq_true,if_false]
 have room:(tupleKind (uKind prog w)).room A.in1:=tupleKind_room_in1 (nF (nM (by decide:1<=20) _) hu)
 have take:∀ (Q':Option DictEntry->Shared->Prop) E',(∀ e h' tk xs',h'.DictOfH (tupleKind (uKind prog w)) d xs'->DP P g ρ (ddel es₀ key) xs'->Heap.SameBut d s.heap h'->VR P g ρ b e.val->Q' (some e) { s with heap:=h',toks:=tk }) ->
   wpAny (model prog w) A.in1 (Builtin.Dict.takeOut d (.ref a)) Q' E' s:=fun Q' E' hQ'=>by
  skip
  refine nG1 ?_
  refine nE1 ((tupleKind (uKind prog w)).pyHash room hkey (nE1 (wpAny_dictFind_heap (s:={ s with toks:=s.toks+(tupleKind (uKind prog w)).draws k }) room hkey ho hd he his hn (fun hno=>?_) fun j p hj=>?_)))
  ·refine eX1 ((dp_get hK DPx).some hb) fun v qA1=>eD2 qA1 fun hv uu=>?_
   rw [atKey_none_of_get hno] at hv;exact nn hv
  ·obtain ⟨q1,a',q2,q3⟩:=dp_del hK DPx hn hj
   obtain rfl:=oJ (hb.symm.trans q2)
   refine nE1 (wpAny_dictEntries (s:={ s with toks:=s.toks+(tupleKind (uKind prog w)).draws k }) ho hd ?_)
   rw [show es[j]?=some (entryOfKey (tupleKind (uKind prog w)) (k,p)) from (entry_at he j).trans (congrArg _ hj)]
   refine nE1 (wpAny_updateDictKeys (hz:=by rw [size_of_entries he];exact hz) (s:={ s with toks:=s.toks+(tupleKind (uKind prog w)).draws k }) ho hd (nF1 (hQ' _ _ _ (xs.eraseIdx j) ⟨_,_,ep+1,Heap.get?_update_self _ ho (Obj.isFreed_of_dict (Obj.data_mapDictKeys hd _)),
    hc.mapDictKeys _,Obj.data_mapDictKeys hd _,?_,fun x hx=>(tupleKind (uKind prog w)).keeps (his x (List.mem_of_mem_eraseIdx hx)) ho hd (Heap.SameBut.update ..),erase_map (·.1) xs j▸hn.eraseIdx j⟩ q1 (Heap.SameBut.update ..) q3)))
   rw [show (es.eraseIdxIfInBounds j).toList=es.toList.eraseIdx j by obtain ⟨l⟩:=es;simp,he,erase_map]
 refine nE1 (take _ _ fun e h' tk xs' q1 q2 q3 q4=>?_)
 dsimp only [Option.isNone_some,Bool.false_eq_true,if_false]
 exact nE1 (wpAny_letGo (nF1 (hQ h' tk e.val xs' q1 q2 q3 q4)))
end
section
variable {B:Base} {A:Around} {z:Z} {fs:List Env} {Q X:PostV}
theorem list_turn {i:Nat} {l:Addr} {vs ws:List AV} {jts:Array Value} {m:Nat} {h':Heap} {a:AV} {v:Value} {Qc:Value->Shared->Prop} (R:Rep B z) (hσ:z.σ i=some (.list vs)) (hρ:z.ρ i=some (l,none)) (hs:Heap.SameBut l z.s.heap h') (e:h'.get? l=some (rowObj "list" jts m)) (r:Vrs B z ws jts.toList) (t:Nat)
  (ha:Vr B z a v) (hq:Q a z.k (upd z.σ i (.list ws))) (hQ:∀ z' a,Go B none_ z z'->VEnd B Q z' a->Qc a z'.s):Qc v (z.put h' t).s :=
 hQ ((z.put h' t).sg (upd z.σ i (.list ws))) v (Go.turned R hσ hρ (fun b hb=>hs.2 b fun q=>hb (.inl q)) hs.1 t ⟨rfl,_,_,e,r⟩) ⟨a,ha,hq⟩
theorem listM_ok {a:AV} {x:Nat} {args:List AV} {v:Value} {vs:List Value} (h:listM a x args z.k z.σ Q) (R:Rep B z) (ha:Vr B z a v) (hv:Vrs B z args vs):Runs B A z (call (.builtin (cond (Nat.beq x 15) "list.append" "list.pop")) (v :: vs)) (VEnd B Q) X :=
 cellA (C:=fun a=>Vr B z a v->_) h (fun i h ha=>cellE h (fun as hσ h=>fewE h fun hl h=>by
  refine eX1 ha fun qA4x0 qA4=>eD2 qA4 fun hp eA4x2=>?_;obtain ⟨l,_⟩:=qA4x0;obtain rfl:=eA4x2
  obtain ⟨rfl,its,k,e,r⟩:=R.cell i _ _ hσ hp
  have hsz:its.size<=sizeLine:=line_ok (row_len r▸hl)
  intro Qc E hQ _
  refine either h (fun hx h=>hx▸?_) fun hx h=>hx▸?_
  ·refine oneE (C:=fun args=>Vrs B z args vs->_) h (fun y h hv=>?_) hv
   cases vs with
   | nil=>exact hv.elim
   | cons w vs =>
    cases vs with
    | cons=>exact hv.2.elim
    | nil =>
     refine call_meets PySem.F.slot_list_append ⟨_,e,rfl⟩ PySem.F.entry_list_append (PySem.F.args_list_append_2 _ _) (list_append l its k w hsz) ⟨e,?_⟩
     exact list_turn (a:=.none) R hσ hp (Heap.SameBut.update z.s.heap l _) (IsL.update e fun xs=>xs.push w) ((Array.toList_push (xs:=its) (x:=w)).symm▸vrs_append (bs:=[y]) (us:=[w]) ⟨hv.1,trivial⟩ r:Vrs B z (as ++ [y]) (its.push w).toList) z.s.toks rfl h hQ
  ·refine nilE (C:=fun args=>Vrs B z args vs->_) h (fun h hv=>okE h fun b hb h=>?_) hv
   cases vs with
   | cons=>exact hv.elim
   | nil =>
    rw [List.getLast?_eq_getElem?] at hb
    refine eX1 (vrs_of r hb) fun y qA6=>eD2 qA6 fun hy hr=>?_
    have hy:its[its.size - 1]?=some y:=by rw [<- Array.getElem?_toList,<- row_len r];exact hy
    refine call_meets PySem.F.slot_list_pop ⟨_,e,rfl⟩ PySem.F.entry_list_pop (PySem.F.args_list_pop_1 _) (list_pop_last l its k y hy hsz) ⟨e,?_⟩
    refine list_turn R hσ hp (Heap.SameBut.update z.s.heap l _) (IsL.update e fun xs=>xs.eraseIdxIfInBounds (its.size - 1)) ?_ z.s.toks hr h hQ
    have:(its.eraseIdxIfInBounds (its.size - 1)).toList=its.toList.take (its.size - 1):=by
     obtain ⟨l⟩:=its
     simp only [List.eraseIdxIfInBounds_toArray,List.size_toArray]
     rw [List.eraseIdx_eq_take_drop_succ,List.drop_of_length_le (by exact om89),List.append_nil]
    rw [this,List.dropLast_eq_take,row_len r]
    exact vrs_take _ r) (fun uu uu uu uu h=>h.elim) fun uu uu uu h=>h.elim) ha
theorem dictM_ok {n:Nat} {a:AV} {x:Nat} {args:List AV} {v:Value} {vs:List Value} (F:Facts0 B) (h:dictM a x args z.k z.σ Q) (C:CxZ B A fs n z) (R:Rep B z) (ha:Vr B z a v) (hv:Vrs B z args vs):Runs B A z (call (.builtin (cond (Nat.beq x 13) "dict.get" "dict.pop")) (v :: vs)) (VEnd B Q) X:=by
 refine cellA (C:=fun a=>Vr B z a v->_) h (fun i h ha=>cellE h (fun uu uu h=>h.elim) (fun kd es ep hσ h=>?_) fun uu uu uu h=>h.elim) ha
 refine eX1 ha fun p qA8=>eD2 qA8 fun hp eA8x2=>?_;obtain rfl:=eA8x2
 have hu:=line_units C
 have hs:=live_ne F R hσ hp
 refine consE (C:=fun args=>Vrs B z args vs->_) h (fun key r h hv=>only h fun hk h=>?_) hv
 cases vs with
 | nil=>exact hv.elim
 | cons kv vs =>
  have hu1:A.units+1 < cLine:=nF (nM (by decide:1<=20) _) hu
  refine dictK (C:=fun p kv=>z.ρ i=some p->(p.1==sysModules)=false->Runs B A z (call (.builtin (cond (Nat.beq x 13) "dict.get" "dict.pop")) (.ref p.1 :: kv :: vs)) (VEnd B Q) X) R (R.cell i _ p hσ hp) (nE hk) hv.1 (fun l kvs u h3 uu hu' hku D U hp hs=>?_) (fun l kvs u y h3 hu' uu hka D U hp hs=>?_) hp hs
  ·refine either h (fun hx h=>hx▸?_) fun hx h=>nilE (C:=fun uu=>_) h fun h=>only h fun e uu=>absurd (nE e) (nH h3)
   have hg:=du_get hu' U
   cases r with
   | nil =>
    cases vs with
    | cons=>exact hv.2.elim
    | nil=>exact Runs.ret R h fun Qc E hQ=>call_meetsIn PySem.F.slot_dict_get D.typeIs PySem.F.entry_dict_get (PySem.F.args_dict_get_2 _ _) (meets_dict_get (uKind B.prog B.w) l hku hs) ⟨_,D.mapOf,hQ _ _ (hg.getD (d:=.none) rfl)⟩
   | cons d r =>
    refine nilE (C:=fun r=>Vrs B z (d :: r) vs->_) h (fun h hv=>?_) hv.2
    cases vs with
    | nil=>exact hv.elim
    | cons dv vs =>
     cases vs with
     | cons=>exact hv.2.elim
     | nil=>exact Runs.ret R h fun Qc E hQ=>call_meetsIn PySem.F.slot_dict_get D.typeIs PySem.F.entry_dict_get (PySem.F.args_dict_get_3 _ _ _) (meets_dict_get_default (uKind B.prog B.w) l hku hs dv) ⟨_,D.mapOf,hQ _ _ (hg.getD hv.1)⟩
  ·have hg:=dp_get hu' U
   refine either h (fun hx h=>hx▸?_) fun hx h=>hx▸?_
   ·cases r with
    | nil =>
     cases vs with
     | cons=>exact hv.2.elim
     | nil=>exact Runs.ret R h fun Qc E hQ=>call_meetsIn PySem.F.slot_dict_get D.typeIs PySem.F.entry_dict_get (PySem.F.args_dict_get_2 _ _) (meetsH_dict_get (tupleKind (uKind B.prog B.w)) l y hs) ⟨tupleKind_room_in1 hu1,u,kvs,hka,D,hQ _ _ (hg.getD (d:=.none) rfl)⟩
    | cons d r =>
     refine nilE (C:=fun r=>Vrs B z (d :: r) vs->_) h (fun h hv=>?_) hv.2
     cases vs with
     | nil=>exact hv.elim
     | cons dv vs =>
      cases vs with
      | cons=>exact hv.2.elim
      | nil=>exact Runs.ret R h fun Qc E hQ=>call_meetsIn PySem.F.slot_dict_get D.typeIs PySem.F.entry_dict_get (PySem.F.args_dict_get_3 _ _ _) (meetsH_dict_get_default (tupleKind (uKind B.prog B.w)) l y hs dv) ⟨tupleKind_room_in1 hu1,u,kvs,hka,D,hQ _ _ (hg.getD hv.1)⟩
   ·refine nilE (C:=fun r=>Vrs B z r vs->_) h (fun h hv=>only h fun uu h=>fewE h fun hl h=>okE h fun b hb h=>?_) hv.2
    cases vs with
    | cons=>exact hv.elim
    | nil =>
     intro Qc E hQ hX
     refine pop_heap hu hka D (line_ok (dp_length U▸hl)) U hu' hb fun h' tk v' xs' q1 q2 q3 q4=>?_
     refine eX1 (dictH_cell (t:=tk) q1 q2) fun ep q5=>?_
     subst h3
     exact hQ ((z.put h' tk).sg (upd z.σ i (.dict 3 (ddel es key) ep))) _ (Go.turned R hσ hp (fun b hb=>q3.2 b fun q=>hb (.inl q)) q3.1 tk q5) ⟨b,q4,h ep⟩
end
section
variable {Y:Sys} {ns:Names} {p:Pos} {A:Around} {z:Z} {fs:List Env}
noncomputable def calleeV (B:Base) (f x:Nat):Value:=f.casesOn (.builtin (cond (Nat.beq x 15) "list.append" "list.pop")) fun f=>f.casesOn (.builtin (cond (Nat.beq x 13) "dict.get" "dict.pop")) fun f=>.ref (B.P.fa f)
theorem meth_look {a:AV} {x:Nat} {v:Value} {pl:Sem Bool} {c:Nat->Prop} {Q:Value×List Value->Shared->Prop} {E:Value->Shared->Prop} (CF:ClsFacts Y.B) (h:methC a x z.σ c) (hx:x < 81) (R:Rep Y.B z) (ha:Vr Y.B z a v) (hQ:∀ f,c f->Q (calleeV Y.B f x,[v]) z.s):wpAny (model Y.B.prog Y.B.w) A (getMethod v (nm x) pl) Q E z.s:=by
 have two:∀ {x m n:Nat},(Nat.beq x m||Nat.beq x n)=true->x=m∨x=n:=fun h=>(Bool.or_eq_true_iff.mp h).imp nE nE
 refine cellA (C:=fun a=>Vr Y.B z a v->_) h (fun i h ha=>cellE h (fun vs hσ h=>only h fun hx' h=>?_) (fun kd es ep hσ h=>only h fun hx' h=>?_) fun cl fs hσ h=>okE h fun f hf h=>?_) ha
 ·refine eX3 (cell_row R hσ ha) fun l its k qA10=>eD3 qA10 fun eA10x3 e r=>?_;obtain rfl:=eA10x3
  have nd:∀ b,Value.ref l=.ref b->∃ o,z.s.heap.get? b=some o/\o.dict=none:=fun b eb=>Value.ref.inj eb▸⟨_,e,rfl⟩
  have:=hQ _ h
  rcases two hx' with rfl | rfl
  ·exact getMethod_builtin ⟨_,e,rfl⟩ PySem.F.plainAttrs_list PySem.F.slot_list_append PySem.F.type_list_append nd this
  ·exact getMethod_builtin ⟨_,e,rfl⟩ PySem.F.plainAttrs_list PySem.F.slot_list_pop PySem.F.type_list_pop nd this
 ·refine eX1 ha fun p qA11=>eD2 qA11 fun hp eA11x2=>?_;obtain rfl:=eA11x2
  have:=hQ _ h
  refine eD2 (dictE (C:=fun p=>z.s.TypeIs (.ref p.1) "dict"/\∀ b,Value.ref p.1=.ref b->∃ o,z.s.heap.get? b=some o/\o.dict=none) R (R.cell i _ p hσ hp) (fun l kvs uu uu D uu=>⟨D.dictOf.typeIs,D.dictOf.mapOf.noDict⟩) fun l kvs uu D uu=>⟨D.typeIs,fun b eb=>D.elim fun o q=>q.elim fun uu q=>q.elim fun uu q=>⟨o,Value.ref.inj eb▸q.1,q.2.1.2.1⟩⟩) fun tn nd=>?_
  rcases two hx' with rfl | rfl
  ·exact getMethod_builtin tn PySem.F.plainAttrs_dict PySem.F.slot_dict_get PySem.F.type_dict_get nd this
  ·exact getMethod_builtin tn PySem.F.plainAttrs_dict PySem.F.slot_dict_pop PySem.F.type_dict_pop nd this
 ·refine eX4 (ins_cell R hσ ha) fun y d es k qA13=>eD4 qA13 fun eA13x4 e1 e2 e3=>?_;obtain rfl:=eA13x4
  refine eD4 (CF.meth cl x f hf) fun q1 q2 q3 q4=>?_
  refine eX1 (getL_vrf hx e3) fun w qA15=>eD2 qA15 fun hw hr=>?_
  cases hg:fget fs x with
  | some=>rw [hg] at h;exact h.elim
  | none =>
   rw [hg] at h hr
   obtain rfl:=(hr:w=none)
   exact method_fn (CF.here R) (⟨e1,rfl,rfl,e2⟩:InstAt z.s.heap y (instObj (Y.B.P.ca cl) d) (Y.B.P.ca cl) (some (PySem.W.dictOf es k))) (plainGet_of q1).1 (plainGet_of q1).2 q3 (beq_iff_eq.mp q4) (by show (lookIn (nm x) (PySem.W.dictOf es k)).map _=_;rw [lookIn_dict,hw];rfl) (hQ _ h)
theorem evalArgs_any {M:Model} {f:Value} {l:List (Bool×Sem Value)} {Q:Args->Shared->Prop} {E:Value->Shared->Prop} {s:Shared} (hl:l.any (·.1)=false) (h:wpAny M A (spliced l) (fun vs s'=>Q ⟨vs,[]⟩ s') E s):wpAny M A (evalArgs f true l []) Q E s:=by
 cases l with
 | nil =>
  skip
  skip
  refine nE1 (wpAny_mono h (fun vs s' h'=>?_) fun uu uu x=>x)
  refine nE1 (nF1 ?_)
  refine nG1 ?_
  exact nE1 (nF1 (nE1 (nF1 (nF1 h'))))
 | cons x r =>
  obtain ⟨b,t⟩:=x
  cases b with
  | true=>exact ff hl.symm
  | false=>exact Calls.evalArgs_plain h
theorem isAttr_call {f0:Expr} {as0:List Expr} (h:isAttr f0=false) (env:Env):eval (.Call f0 as0 [] p) env=(eval f0 env >>= fun v=>callWith p v [] (backTo p (starEach as0 env)) (backToKw p (keywordEach [] env))):=by
 cases f0 <;> first | rfl | exact ff h.symm
theorem args_ok {as0:List Expr} {as:E} {c:Ar} {v:Value} {first:List Value} {Q Q' X:PostV} (has:AllOk Y ns as0 as) (hw:evW Y.cw as c.vars z.k z.σ Q' X) (K:Ctx Y ns c z)
  (hk:∀ z' as vs,Go Y.B none_ z z'->Vrs Y.B z' as vs->Q' (.tup as) z'.k z'.σ->KeepOk (model Y.B.prog Y.B.w) z'.s.heap v/\Runs Y.B c.A z' (call v (first ++ vs)) (VEnd Y.B Q) X):Runs Y.B c.A z (callWith p v first (backTo p (starEach as0 c.env)) (backToKw p (keywordEach [] c.env))) (VEnd Y.B Q) X:=fun Qc E hQ hX=>by
 refine callWith_of (P:=fun h=>KeepOk (model Y.B.prog Y.B.w) h v) ((Bool.or_false _).trans has.star) (fun h x=>x) (evalArgs_any has.star ?_)
 exact has.evs c z _ X hw K p _ E (fun z₂ vs g₂ q=>q.elim fun bs q=>(hk z₂ bs vs g₂ q.1 q.2).imp id fun r=>r.ends g₂ hQ hX) hX
theorem ev_call {f0:Expr} {as0:List Expr} {f as:E} (KT:Kit Y) (hf:EvOk Y ns f0 f) (has:AllOk Y ns as0 as) (hna:isAttr f0=false):EvOk Y ns (.Call f0 as0 [] p) (.call f as):=fun c z Q X hw K=>by
 rw [isAttr_call hna]
 exact (hf c z _ X hw K).bindV fun z₁ a v g₁ ha h=>args_ok has h (K.go g₁) fun z₂ bs vs g₂ hbs h=>⟨keeper_ok KT h g₂.rep (g₂.vr ha),app_ok KT h ((K.go g₁).go g₂).cx g₂.rep (g₂.vr ha) hbs⟩
theorem methM_ok {f x:Nat} {a:AV} {args:List AV} {Q X:PostV} {v:Value} {vs:List Value} (KT:Kit Y) (h:methW Y.cw f a x args z.k z.σ Q X) (C:CxZ Y.B A fs Y.n z) (R:Rep Y.B z) (ha:Vr Y.B z a v) (hv:Vrs Y.B z args vs):KeepOk (model Y.B.prog Y.B.w) z.s.heap (calleeV Y.B f x)/\Runs Y.B A z (call (calleeV Y.B f x) (v :: vs)) (VEnd Y.B Q) X :=
 match f,h with
 | 0,h=>⟨⟨.machine,.inr (.inl rfl),.now⟩,listM_ok h R ha hv⟩
 | 1,h=>⟨⟨.machine,.inr (.inl rfl),.now⟩,dictM_ok KT.f0 h C R ha hv⟩
 | f+2,h=>⟨keep_fn R (KT.fn _ _ z _ _ _ _ _ h R rfl),run_ok (callee:=.fn f) (args:=a :: args) (vs:=v :: vs) KT.run h C R rfl ⟨ha,hv⟩⟩
theorem form_few {es:List Expr} {es':E} {env:Env} {q:Pos} (h:AllOk Y ns es es') {n:Nat} (hn:n < 20):methodCallForm n (backTo p (starEach es env)) (backToKw q (keywordEach [] env))=true:=by
 have:(backTo p (starEach es env)).all (!·.1)=true:=nC1.mpr fun x hx=>Bool.not_eq_true' _▸Bool.eq_false_iff.mpr (List.any_eq_false.mp (h.star (env:=env) (p:=p)) x hx)
 unfold methodCallForm
 rw [this]
 show (true&&true&&decide (n+(if ([]:List (Option Str×Sem Value)).isEmpty then 0 else 1) < 30))=true
 simp;exact om14 hn rfl
theorem ev_meth {o0:Expr} {x:Nat} {as0:List Expr} {o as:E} {ap:Pos} (KT:Kit Y) (ho:EvOk Y ns o0 o) (has:AllOk Y ns as0 as) (hb:isBare o0=false) (hx:x < 81) (hp:(ap.endLine==p.line)=true) (hl:as0.length < 20):EvOk Y ns (.Call (.Attribute o0 (nm x) ap) as0 [] p) (.meth o x as):=fun c z Q X hw K=>by
 show Runs Y.B c.A z (attributeBase o0 (nm x) c.env (eval o0 c.env) >>= fun ov=>PySem.standAt ap.atName >>= fun uu=>PySem.holding [ov] (calleeOf (methodCallForm (as0.length+0) (backTo p (starEach as0 c.env)) (backToKw p (keywordEach [] c.env))) o0 c.env ov (nm x)) >>= fun r=>methodCallPos (methodCallForm (as0.length+0) (backTo p (starEach as0 c.env)) (backToKw p (keywordEach [] c.env))) o0 c.env ap p >>= fun cp=>callWith cp r.1 r.2 (backTo p (starEach as0 c.env)) (backToKw p (keywordEach [] c.env))) _ _
 rw [attributeBase_plain hb,form_few (n:=as0.length+0) has hl]
 have hpos:methodCallPos true o0 c.env ap p=Pure.pure p:=by unfold methodCallPos;rw [hp];rfl
 rw [hpos]
 refine (ho c z _ X hw K).bindV fun z₁ v u g₁ ha h=>Runs.standAt fun Qc E hQ hX=>nE1 (nG1 ?_)
 skip
 refine meth_look (Y:=Y) KT.cls h hx g₁.rep ha fun f h=>nE1 (nF1 ?_)
 exact args_ok (first:=[u]) (Q:=Q) has h (K.go g₁) (fun z₂ bs vs g₂ hbs h=>methM_ok KT h ((K.go g₁).go g₂).cx g₂.rep (g₂.vr ha) hbs) Qc E hQ hX
end
end
section
theorem size_upd (h:Heap) (a:Addr) (f:Obj->Obj):(h.update a f).objs.size=h.objs.size:=(Heap.SameBut.update h a f).1
theorem runs_size {M:Model} {Γ:PySem.Ctx} {p:Pos} {t:Sem Fin} {fs:List Frame} {s s':Shared} {e:End} (h:PySem.Runs M Γ p t fs s e s'):s.heap.objs.size<=s'.heap.objs.size:=by
 induction h <;> (try simp only [Shared.setGen,Heap.size_push,size_upd] at *) <;> omega
theorem wakes_size {M:Model} {Γ:PySem.Ctx} {p:Pos} {g:Nat} {r:Resume} {s s':Shared} {res:GenResult} (h:Wakes M Γ p g r s res s'):s.heap.objs.size<=s'.heap.objs.size:=by
 unfold Wakes at h
 split at h
 ·exact h.elim
 ·split at h
  ·refine eX2 h fun e₁ s₁ qA0=>eD4 qA0 fun hr uu uu eA0x5=>?_;obtain rfl:=eA0x5;exact (runs_size hr:(s.setGen g .running).heap.objs.size<=s₁.heap.objs.size)
  ·rw [h.2];exact nB _
  ·rw [h.2];exact nB _
 ·refine eX2 h fun e₁ s₁ qA1=>eD4 qA1 fun hr uu uu eA1x5=>?_;obtain rfl:=eA1x5;exact (runs_size hr:(s.setGen g .running).heap.objs.size<=s₁.heap.objs.size)
 ·rw [h.2];exact nB _
 ·rw [h.2];exact nB _
theorem wp_size {α:Type} (M:Model) (Γ:PySem.Ctx) (n:Nat) (t:Sem α):∀ (Q:α->Pos->Shared->Prop) (E:Value->Pos->Shared->Prop) (p:Pos) (s:Shared),n<=s.heap.objs.size->Sem.wp M Γ t Q E p s ->
  Sem.wp M Γ t (fun a p' s'=>n<=s'.heap.objs.size/\Q a p' s') (fun e p' s'=>n<=s'.heap.objs.size/\E e p' s') p s:=by
 induction t with
 | pure a=>intro Q E p s hn h;exact ⟨hn,h⟩
 | raise e=>intro Q E p s hn h;exact ⟨hn,h⟩
 | unsupported _=>intro Q E p s _ h;exact h
 | finish _=>intro Q E p s _ h;exact h
 | rule _ k ih=>intro Q E p s hn h;exact ih () Q E p s hn h
 | «at» p' k ih=>intro Q E p s hn h;exact ih () Q E p' s hn h
 | load a _ k ih=>intro Q E p s hn h;exact h.imp fun o h=>⟨h.1,ih o Q E p s hn h.2⟩
 | update a _ f k ih=>intro Q E p s hn h;exact ⟨h.1,ih () Q E p _ ((size_upd s.heap a f).symm▸hn:n<=(s.heap.update a f).objs.size) h.2⟩
 | loadIfAlive a k ih=>intro Q E p s hn h;exact ih _ Q E p s hn h
 | point _ k ih=>intro Q E p s hn h;exact ih () Q E p s hn h
 | register _ _=>intro Q E p s _ h;exact h
 | alloc o k ih=>intro Q E p s hn h;exact ih _ Q E p _ (nA hn (push_le _ _)) h
 | fresh k ih=>intro Q E p s hn h;exact ih _ Q E p _ hn h
 | ask k ih=>intro Q E p s hn h;exact ih _ Q E p s hn h
 | choose src m k ih=>intro Q E p s hn h;exact ⟨h.1,ih _ Q E p _ hn h.2⟩
 | os q _ k ih=>intro Q E p s hn h;exact ih _ Q E p _ hn h
 | call c hd _ _ k ih=>intro Q E p s hn h;exact h.imp fun r h=>h.imp fun s' h=>⟨h.1,ih r Q E p s' (nA hn (runs_size h.1)) h.2⟩
 | handled own k ih=>intro Q E p s hn h;exact ih _ Q E p s hn h
 | genState g k ih=>intro Q E p s hn h;exact h.imp fun st h=>⟨h.1,ih _ Q E p s hn h.2⟩
 | newGen c k ih=>intro Q E p s hn h;exact ih _ Q E p _ hn h
 | resume g r _ k ih=>intro Q E p s hn h;exact h.imp fun res h=>h.imp fun s' h=>⟨h.1,ih res Q E p s' (nA hn (wakes_size h.1)) h.2⟩
 | yield _ _ _ _=>intro Q E p s _ h;exact h
 | stack k ih=>intro Q E p s hn h;exact ih _ Q E p s hn h
 | fork _ _=>intro Q E p s _ h;exact h
 | thread k ih=>intro Q E p s hn h;exact ih _ Q E p s hn h
 | await _ _ _ _ _=>intro Q E p s _ h;exact h
theorem sized {α:Type} {M:Model} {A:Around} {s:Shared} {t:Sem α} {Q:α->Shared->Prop} {E:Value->Shared->Prop}
  (h:wpAny M A t (fun a s'=>s.heap.objs.size<=s'.heap.objs.size->Q a s') (fun e s'=>s.heap.objs.size<=s'.heap.objs.size->E e s') s):wpAny M A t Q E s :=
 wpAny_mono (Q:=fun a s'=>s.heap.objs.size<=s'.heap.objs.size/\(s.heap.objs.size<=s'.heap.objs.size->Q a s')) (E:=fun e s'=>s.heap.objs.size<=s'.heap.objs.size/\(s.heap.objs.size<=s'.heap.objs.size->E e s'))
  (fun Γ p hΓ=>wp_size M Γ _ t _ _ p s (nB _) (h Γ p hΓ)) (fun uu uu x=>x.2 x.1) (fun uu uu x=>x.2 x.1)
noncomputable def DictObj (h:Heap) (d:Addr) (es:Array DictEntry) (ep:Nat):Prop:=∃ o,h.get? d=some o/\o.ExactDict/\o.data=.dict es ep
section
variable {prog:Program} {w:World} {A:Around} {E:Value->Shared->Prop} {s:Shared}
theorem stop_here {α:Type} {Q:α->Shared->Prop} {M:Model} (hh:A.handled=none)
  (h:∀ e h',(∀ b o,s.heap.get? b=some o->h'.get? b=some o)->Shared.TypeIs { s with heap:=h' } (.ref e) "StopIteration"->E (.ref e) { s with heap:=h' }) :
  wpAny M A (newExc (.type "StopIteration") [] >>= fun x=>(raiseNew x:Sem α)) Q E s:=by
 refine nE1 ?_
 dsimp only [newExc,newTuple]
 refine nE1 (wpAny_newObj_type ?_ (by size_fits))
 refine nE1 (m:=firstArgMember _ _) (wpAny_of_eq (a:=Value.none) (by first | rfl | (dsimp only [firstArgMember];rfl)) ?_)
 refine wpAny_newObj_type ?_ (by size_fits)
 dsimp only [raiseNew]
 refine nE1 (wpAny_handled ?_)
 rw [hh]
 exact nE1 (nF1 (wpAny_throw (h _ _ (fun b o e=>Heap.get?_push_of_some _ (Heap.get?_push_of_some _ e)) ⟨_,Heap.get?_push_size _ rfl,rfl⟩)))
theorem next_keys {it d:Addr} {i n ep:Nat} {es:Array DictEntry} {Q:Option Value->Shared->Prop} (hh:A.handled=none) (hit:s.heap.IsKeyIter it d i n ep) (hm:DictObj s.heap d es ep) (hn:es.size=n)
  (hS:∀ e,es[i]?=some e->∀ h',h'.IsKeyIter it d (i+1) n ep->Heap.SameBut it s.heap h'->Q (some e.key) { s with heap:=h' }) (hE:es[i]?=none->∀ h',Heap.ExtBut it s.heap h'->Q none { s with heap:=h' }):wpAny (model prog w) A (pyNext (.ref it)) Q E s:=by
 refine eX1 (id hit) fun o qA2=>eD3 qA2 fun ho hc hd=>?_
 refine eX1 (id hm) fun od qA3=>eD3 qA3 fun hod hcd hdd=>?_
 skip
 refine nE1 (wpAny_attempt (wpAny_callSpecial?_slot (name:=Str.ofString "__next__") hit.typeIs F.slot_dict_keyiterator_next
  (wpAny_call_entry F.slot_dict_keyiterator_next hit.typeIs F.entry_dict_keyiterator_next ?_ (F.args_dict_keyiterator_next_1 _))))
 refine nE1 (nF1 (nE1 (nE1 ?_)))
 first | refine nE1 (wpAny_typeNameOfWhole_keyiter hit.typeIs (nF1 ?_)) | refine nE1 (wpAny_typeNameOf_keyiter hit.typeIs (nF1 ?_))
 refine nE1 (wpAny_fieldsOf ho hd ?_)
 rw [show Builtin.Dict_items.ownsTuple "dict_keyiterator"=false by decide,if_neg Bool.false_ne_true]
 show wpAny _ _ (if (Value.ref d==Value.none)=true then _ else _) _ _ s
 rw [if_neg (show ¬ ((Value.ref d==Value.none)=true) from Bool.false_ne_true)]
 refine nE1 (nF1 (nE1 (wpAny_dictEntries hod hdd ?_)))
 rw [if_neg (by rw [hn];simp)]
 refine nE1 (nF1 (nE1 (wpAny_dictEpoch hod hdd ?_)))
 rw [if_neg (by simp)]
 refine nF1 ?_
 dsimp only [show ¬ ((i:Int) < 0) from by exact om41,if_false,Int.toNat_natCast]
 cases hx:es[i]? with
 | some e =>
  refine nE1 ?_
  first | refine nE1 (wpAny_typeNameOfWhole_keyiter hit.typeIs (nF1 ?_)) | refine nE1 (wpAny_typeNameOf_keyiter hit.typeIs (nF1 ?_))
  refine nE1 (wpAny_isOneOf_keyiter hit.typeIs ?_)
  show wpAny _ _ (setField (.ref it) 1 (rawInt ((i:Int)+1)) >>= _) _ _ s
  refine nE1 (wpAny_setField ho hd (by simp) ?_)
  have hit':(s.heap.update it (Obj.mapFields (·.setIfInBounds 1 (rawInt ((i:Int)+1))))).IsKeyIter it d (i+1) n ep :=
   ⟨_,Heap.get?_update_self _ ho (Obj.isFreed_of_fields (Obj.data_mapFields hd _)),(Obj.cls_mapFields ..).trans hc,by rw [Obj.data_mapFields hd];simp [rawInt]⟩
  refine nE1 (nG1 ?_)
  refine nE1 (wpAny_isOneOf_keyiter (s:={ s with heap:=s.heap.update it (Obj.mapFields (·.setIfInBounds 1 (rawInt ((i:Int)+1)))) }) hit'.typeIs ?_)
  exact nF1 (nF1 ⟨_,rfl,nF1 (hS e hx _ hit' (Heap.SameBut.update ..))⟩)
 | none =>
  refine nE1 ?_
  first | refine nE1 (wpAny_typeNameOfWhole_keyiter hit.typeIs (nF1 ?_)) | refine nE1 (wpAny_typeNameOf_keyiter hit.typeIs (nF1 ?_))
  show wpAny _ _ (setField (.ref it) 0 .none >>= _) _ _ s
  refine nE1 (wpAny_setField ho hd (by simp) ?_)
  exact stop_here hh fun e h' k T=>nE1 (wpAny_isInstance T isSubtype_stop (nF1 (hE hx h' fun b o hb e=>k b o ((Heap.SameBut.update ..).extBut b o hb e))))
theorem iter_dict {d:Addr} {es:Array DictEntry} {ep:Nat} {Q:Value->Shared->Prop} (hd:(d==sysModules)=false) (hm:DictObj s.heap d es ep)
  (hQ:Q (.ref s.heap.objs.size) { s with heap:=s.heap.push { cls:=.type "dict_keyiterator",data:=.fields #[.ref d,.int 0 0,.int es.size 0,.int ep 0] } }):wpAny (model prog w) A (pyIter (.ref d)) Q E s:=by
 refine eX1 (id hm) fun o qA4=>eD3 qA4 fun ho hc hdat=>?_
 have hT:s.TypeIs (.ref d) "dict":=⟨o,ho,hc.1⟩
 refine wpAny_pyIter_slot hT F.slot_dict_iter (wpAny_call_entry F.slot_dict_iter hT F.entry_dict_iter ?_ (F.args_dict_iter_1 _))
 skip
 refine nE1 ?_
 skip
 refine nE1 (wpAny_notOrdered_dict hT ?_)
 skip
 refine nF1 ?_
 show wpAny _ _ (Builtin.Dict.showsAll d >>= _) _ _ s
 unfold Builtin.Dict.showsAll
 rw [if_neg (by rw [hd];exact Bool.false_ne_true)]
 refine nE1 (nF1 (nE1 (wpAny_dictEntries ho hdat (nE1 (wpAny_dictEpoch ho hdat ?_)))))
 refine nE1 (wpAny_newObj_type (nF1 ⟨_,rfl,"dict_keyiterator",_,⟨_,Heap.get?_push_size _ rfl,rfl⟩,F.slot_dict_keyiterator_next.lookup,?_⟩))
 simpa [rawInt] using hQ
end
inductive ItK (B:Base) (z:Z) (I i:Nat) (items:List AV) (inv:Store->Prop):Prop
 | lst (l:Addr) (its:Array Value) (k:Nat):z.g.get? l=some (rowObj "list" its k)->Vrs B z items its.toList->z.s.heap.IsListIter I l i->ItK B z I i items inv
 | tup (l:Addr) (its:Array Value) (k:Nat):z.g.get? l=some (rowObj "tuple" its k)->Vrs B z items its.toList->z.s.heap.IsTupleIter I l i->ItK B z I i items inv
 | row (c:Nat) (l:Addr):z.ρ c=some (l,none)->(∀ σ,inv σ->σ c=some (.list items))->z.s.heap.IsListIter I l i->ItK B z I i items inv
 | keys (c kd ep:Nat) (es:List (AV×AV)) (d:Addr):z.ρ c=some (d,none)->(∀ σ,inv σ->σ c=some (.dict kd es ep))->items=keysOf es->z.s.heap.IsKeyIter I d i es.length ep->ItK B z I i items inv
 | rng (a b c:Int):items=rangeL a b c->IsRangeIter z.s.heap I (a+c*i) (items.length - i:Int) c->ItK B z I i items inv
section
variable {B:Base} {A:Around} {own:Addr->Prop} {z z':Z} {I i:Nat} {items:List AV} {inv:Store->Prop}
theorem nf_fields {o:Obj} {fs:Array Value} (h:o.data=.fields fs):NF o:=fun q=>q.2.elim fun uu q=>q.elim fun uu q=>nomatch h.symm.trans q
theorem ItK.step (x:ItK B z I i items inv) (P:Priv B z I) (g:Go B own z z') (ho:¬ own I):ItK B z' I i items inv:=by
 have keep:∀ {o},z.s.heap.get? I=some o->NF o->z'.s.heap.get? I=some o:=fun e c=>g.same.plain e (P.out ho) c
 cases x with
 | lst l its k h1 h2 h3=>exact .lst l its k (g.gext _ _ h1) (g.vrs h2) (h3.imp fun o h=>⟨keep h.1 (nf_fields h.2.2),h.2⟩)
 | tup l its k h1 h2 h3=>exact .tup l its k (g.gext _ _ h1) (g.vrs h2) (h3.imp fun o h=>⟨keep h.1 (nf_fields h.2.2),h.2⟩)
 | row c l h1 h h2=>exact .row c l (g.ρext _ _ h1) h (h2.imp fun o h=>⟨keep h.1 (nf_fields h.2.2),h.2⟩)
 | keys c kd ep es d h1 h e h2=>exact .keys c kd ep es d (g.ρext _ _ h1) h e (h2.imp fun o h=>⟨keep h.1 (nf_fields h.2.2),h.2⟩)
 | rng a b c e h=>exact .rng a b c e (keep h (nf_fields rfl))
theorem ItK.lt (x:ItK B z I i items inv):I < z.N:=by
 cases x with
 | lst l its k h1 h2 h3=>exact h3.elim fun o h=>Heap.lt_size h.1
 | tup l its k h1 h2 h3=>exact h3.elim fun o h=>Heap.lt_size h.1
 | row c l h1 h h2=>exact h2.elim fun o h=>Heap.lt_size h.1
 | keys c kd ep es d h1 h e h2=>exact h2.elim fun o h=>Heap.lt_size h.1
 | rng a b c e h=>exact Heap.lt_size h
theorem own_go {M:Model} {t:Expr} {v:Value} {Q:Unit->Shared->Prop} {E:Value->Shared->Prop} (x:ItK B z I i items inv) (hQ:Q () z.s):wpAny M A (letOwnedTupleGo t (.ref I) v) Q E z.s:=by
 have ex:∃ o T fs,z.s.heap.get? I=some o/\o.cls=.type T/\o.data=.fields fs/\["enumerate","zip","dict_itemiterator","dict_reverseitemiterator","odict_iterator","itertools.zip_longest","itertools.pairwise"].contains T=false:=by
  cases x with
  | lst l its k h1 h2 h3=>exact h3.elim fun o h=>⟨o,_,_,h.1,h.2.1,h.2.2,by decide⟩
  | tup l its k h1 h2 h3=>exact h3.elim fun o h=>⟨o,_,_,h.1,h.2.1,h.2.2,by decide⟩
  | row c l h1 h h2=>exact h2.elim fun o h=>⟨o,_,_,h.1,h.2.1,h.2.2,by decide⟩
  | keys c kd ep es d h1 h e h2=>exact h2.elim fun o h=>⟨o,_,_,h.1,h.2.1,h.2.2,by decide⟩
  | rng a b c e h=>exact ⟨_,_,_,h,rfl,rfl,by decide⟩
 refine eX3 ex fun o T fs qA5=>eD4 qA5 fun e c d hT=>?_
 skip
 cases t with
 | Tuple es k p =>
  cases v with
  | ref a =>
   refine nE1 (wpAny_load e ?_)
   rw [c,d]
   dsimp only
   rw [hT]
   simp only [Bool.false_and,Bool.false_eq_true,if_false]
   exact nF1 hQ
  | _=>exact nF1 hQ
 | List es p =>
  cases v with
  | ref a =>
   refine nE1 (wpAny_load e ?_)
   rw [c,d]
   dsimp only
   rw [hT]
   simp only [Bool.false_and,Bool.false_eq_true,if_false]
   exact nF1 hQ
  | _=>exact nF1 hQ
 | _=>exact nF1 hQ
end
end
section
open PySem.SeqAt PySem.MeetsSeq
section
variable {B:Base} {A:Around} {own:Addr->Prop} {z z':Z} {I i:Nat} {items:List AV} {inv:Store->Prop} {Q:Option Value->Shared->Prop} {E:Value->Shared->Prop}
theorem u_vr {P:Places} {g:Heap} {ρ:Rho} {k:AV} {u:U} {v:Value} (hu:uOf k=some u) (h:isU u v=true):VR P g ρ k v :=
 uE (C:=fun k u=>isU u v=true->VR P g ρ k v) hu (fun x h=>isU_e (C:=fun u v=>u=.i x->VR P g ρ (.int x) v) h (fun a t e=>U.i.inj e▸⟨t,rfl⟩) nofun nofun rfl) (fun x h=>isU_e (C:=fun u v=>u=.s x->VR P g ρ (.str x) v) h nofun (fun a t e=>U.s.inj e▸⟨t,rfl⟩) nofun rfl)
  (fun x h=>isU_e (C:=fun u v=>u=.b x->VR P g ρ (.bytes x) v) h nofun nofun (fun a t e=>U.b.inj e▸⟨t,rfl⟩) rfl) h
theorem du_at {P:Places} {g:Heap} {ρ:Rho}:∀ {es:List (AV×AV)} {kvs:List (U×Value)},DU P g ρ es kvs->∀ {j:Nat} {a:AV},(keysOf es)[j]?=some a->∃ q,kvs[j]?=some q/\uOf a=some q.1
 | [],_,_,_,_,e=>nomatch e
 | _ :: _,[],h,_,_,_=>h.elim
 | _ :: _,kv :: _,h,0,_,e=>⟨kv,rfl,oJ e▸h.1⟩
 | _ :: _,_ :: _,h,j+1,_,e=>du_at h.2.2 (j:=j) e
theorem dp_at {P:Places} {g:Heap} {ρ:Rho}:∀ {es:List (AV×AV)} {kvs:List (List U×Addr×Value)},DP P g ρ es kvs->∀ {j:Nat} {a:AV},(keysOf es)[j]?=some a->∃ q,kvs[j]?=some q/\VR P g ρ a (.ref q.2.1)
 | [],_,_,_,_,e=>nomatch e
 | _ :: _,[],h,_,_,_=>h.elim
 | _ :: _,kv :: _,h,0,_,e=>⟨kv,rfl,oJ e▸h.2.1⟩
 | _ :: _,_ :: _,h,j+1,_,e=>dp_at h.2.2.2 (j:=j) e
theorem keys_obj {c kd ep:Nat} {es:List (AV×AV)} {p:Addr×Option Addr} (R:Rep B z) (hσ:z.σ c=some (.dict kd es ep)) (hρ:z.ρ c=some p) :
  p.2=none/\∃ ents,DictObj z.s.heap p.1 ents ep/\ents.size=es.length/\∀ (j:Nat) a,(keysOf es)[j]?=some a->∃ e:DictEntry,ents[j]?=some e/\Vr B z a e.key:=by
 obtain ⟨hp,⟨h3,hk,kvs,D,U⟩ | ⟨h3,kvs,ents,e1,e2,e3,U⟩⟩:=R.cell c _ p hσ hρ
 ·refine eX2 D fun o ents qA0=>eD6 qA0 fun q1 q2 q3 q4 q5 q6=>?_
  have hl:ents.size=kvs.length:=q5.length
  refine ⟨hp,ents,⟨o,q1,q2,q3⟩,hl.trans (du_length U),fun j a ha=>(du_at U ha).elim fun q r=>?_⟩
  have hj:j < ents.size:=hl▸(List.getElem?_eq_some_iff.mp r.1).1
  exact ⟨ents[j],Array.getElem?_eq_getElem hj,u_vr r.2 (q5.get? (Array.getElem?_toList.trans (Array.getElem?_eq_getElem hj)) r.1).1⟩
 ·exact ⟨hp,ents,⟨_,e1,⟨rfl,rfl,rfl⟩,rfl⟩,(size_of_entries e2).trans (dp_length U),fun j a ha=>(dp_at U ha).elim fun q r=>⟨_,(entry_at e2 j).trans (congrArg _ r.1),r.2⟩⟩
theorem go_own {h':Heap} (R:Rep B z) (P:Priv B z I) (hs:Heap.ExtBut I z.s.heap h') (hz:z.N<=h'.objs.size) (tk:Nat):Go B (·=I) z (z.put h' tk):=Go.mine R (fun b o e n=>.inl (hs b o n e)) (fun a ha uu=>ha▸P) hz tk
theorem next_item {a:AV} (hh:A.handled=none) (R:Rep B z) (P:Priv B z I) (K:ItK B z I i items inv) (hi:inv z.σ) (ha:items[i]?=some a)
  (hQ:∀ z' v,Go B (·=I) z z'->z'.k=z.k->z'.σ=z.σ->Vr B z' a v->ItK B z' I (i+1) items inv->Priv B z' I->Q (some v) z'.s):wpAny (model B.prog B.w) A (pyNext (.ref I)) Q E z.s:=by
 have fin:∀ h' tk v,Heap.SameBut I z.s.heap h'->Vr B z a v->ItK B (z.put h' tk) I (i+1) items inv->Q (some v) (z.put h' tk).s:=fun h' tk v hs hv K'=>hQ (z.put h' tk) v (go_own R P hs.extBut (nG hs.1.symm) tk) rfl rfl hv K' (P.put h' tk)
 have at_:∀ {its:Array Value},Vrs B z items its.toList->∃ v,its[i]?=some v/\Vr B z a v:=fun r=>(vrs_of r ha).imp fun v q=>⟨Array.getElem?_toList.symm.trans q.1,q.2⟩
 cases K with
 | lst l its k h1 h2 h3=>exact (at_ h2).elim fun v q=>wpAny_pyNext_list_item h3 ⟨_,R.stays _ _ h1,rfl,k,rfl⟩ q.1 fun h' q1 q2=>fin h' z.s.toks v q2 q.2 (.lst l its k h1 h2 q1)
 | tup l its k h1 h2 h3=>exact (at_ h2).elim fun v q=>wpAny_pyNext_tuple_item h3 ⟨_,R.stays _ _ h1,rfl,k,rfl⟩ q.1 fun h' q1 q2=>fin h' z.s.toks v q2 q.2 (.tup l its k h1 h2 q1)
 | row c l h1 h h2=>exact (R.cell c _ _ (h _ hi) h1).2.elim fun its e=>e.elim fun k e=>(at_ e.2).elim fun v q=>wpAny_pyNext_list_item h2 ⟨_,e.1,rfl,k,rfl⟩ q.1 fun h' q1 q2=>fin h' z.s.toks v q2 q.2 (.row c l h1 h q1)
 | keys c kd ep es d h1 h e h2 =>
  subst e
  obtain ⟨_,ents,D,hl,hk⟩:=keys_obj R (h _ hi) h1
  refine eX1 (hk i a ha) fun e qA2=>eD2 qA2 fun he hr=>?_
  exact next_keys hh h2 D hl (fun e' he' h' q1 q2=>fin h' z.s.toks e'.key q2 (oJ (he.symm.trans he')▸hr) (.keys c kd ep es d h1 h rfl q1)) fun q=>nomatch he.symm.trans q
 | rng x b c e h =>
  subst e
  have hlt:i < (rangeL x b c).length:=(List.getElem?_eq_some_iff.mp ha).1
  refine wpAny_pyNext_range_item h (by exact Int.sub_pos_of_lt (Int.ofNat_lt.mpr hlt)) fun h' q1 q2=>?_
  have hv:a=.int (x+c*i):=by
   unfold rangeL at ha
   rw [List.getElem?_map] at ha
   refine mapE ha fun j hj e=>?_
   rw [List.getElem?_eq_some_iff] at hj
   rw [<- e,<- hj.2,List.getElem_range]
  subst hv
  refine fin h' _ _ q2 ⟨_,rfl⟩ (.rng x b c rfl ?_)
  have e1:x+c*i+c=x+c*((i+1:Nat):Int):=by rw [Int.natCast_succ,Int.mul_add,Int.mul_one,Int.add_assoc]
  have e2:((rangeL x b c).length:Int) - i - 1=(rangeL x b c).length - ((i+1:Nat):Int):=by rw [Int.natCast_succ,Int.sub_sub]
  rw [<- e1,<- e2];exact q1
theorem next_end (hh:A.handled=none) (R:Rep B z) (P:Priv B z I) (K:ItK B z I i items inv) (hi:inv z.σ) (ha:items.length<=i)
  (hQ:∀ z',Go B (·=I) z z'->z'.k=z.k->z'.σ=z.σ->Q none z'.s):wpAny (model B.prog B.w) A (pyNext (.ref I)) Q E z.s:=by
 refine sized ?_
 have fin:∀ h' tk,Heap.ExtBut I z.s.heap h'->z.N<=h'.objs.size->Q none (z.put h' tk).s:=fun h' tk hs hz=>hQ (z.put h' tk) (go_own R P hs hz tk) rfl rfl
 have off:∀ {its:Array Value},Vrs B z items its.toList->its[i]?=none:=fun r=>Array.getElem?_eq_none (row_len r▸ha)
 cases K with
 | lst l its k h1 h2 h3=>exact wpAny_pyNext_list_end hh h3 ⟨_,R.stays _ _ h1,rfl,k,rfl⟩ (off h2) fun h' q1=>fin h' z.s.toks q1
 | tup l its k h1 h2 h3=>exact wpAny_pyNext_tuple_end hh h3 ⟨_,R.stays _ _ h1,rfl,k,rfl⟩ (off h2) fun h' q1=>fin h' z.s.toks q1
 | row c l h1 h h2=>exact (R.cell c _ _ (h _ hi) h1).2.elim fun its e=>e.elim fun k e=>wpAny_pyNext_list_end hh h2 ⟨_,e.1,rfl,k,rfl⟩ (off e.2) fun h' q1=>fin h' z.s.toks q1
 | keys c kd ep es d h1 h e h2 =>
  subst e
  obtain ⟨_,ents,D,hl,hk⟩:=keys_obj R (h _ hi) h1
  exact next_keys hh h2 D hl (fun e he=>absurd (nY (as:=es) (·.1)▸ha:es.length<=i) (Nat.not_le.mpr (hl▸(Array.getElem?_eq_some_iff.mp he).1))) fun uu h' q1=>fin h' z.s.toks q1
 | rng x b c e h=>exact wpAny_pyNext_range_end hh h (by exact Int.sub_nonpos_of_le (Int.ofNat_le.mpr ha)) fun h' q1=>fin h' z.s.toks q1
theorem rng_e {a b c:Int} (h:rngB a b c=true):a.natAbs < 1000000000/\b.natAbs < 1000000000/\c.natAbs < 1000/\c≠0 :=
 band h fun h h4=>band h fun h h3=>band h fun h1 h2=>⟨nC h1,nC h2,nC h3,of_decide_eq_false (bnot h4)⟩
theorem rangeSize_bounds {a b c:Int} (h:a.natAbs < 1000000000/\b.natAbs < 1000000000/\c.natAbs < 1000/\c≠0):0<=Builtin.Range.rangeSize a b c/\Builtin.Range.rangeSize a b c<=2000000000:=by
 refine eD4 h fun h1 h2 h3 h4=>?_
 have up:∀ {x d:Int},0<=x->0 < d->x < 2000000000->0<=x / d+1/\x / d+1<=2000000000:=fun {x d} h0 hd hx=>by
  have e1:=Int.ediv_nonneg h0 (Int.le_of_lt hd)
  have e2:=Int.ediv_le_self d h0
  exact ⟨Int.add_nonneg e1 (by decide),Int.add_one_le_of_lt (Int.lt_of_le_of_lt e2 hx)⟩
 unfold Builtin.Range.rangeSize
 split
 ·split
  ·exact up (by omega) (by omega) (by exact om106 h.1 h.2.1)
  ·decide
 ·split
  ·exact up (by omega) (by omega) (by exact om106 h.2.1 h.1)
  ·decide
theorem range_small {a b c:Int} (h:a.natAbs < 1000000000/\b.natAbs < 1000000000/\c.natAbs < 1000/\c≠0):Builtin.Range.small a b c=true:=by
 refine eD2 (rangeSize_bounds h) fun q1 q2=>?_
 refine eD4 h fun h1 h2 h3 h4=>?_
 unfold Builtin.Range.small Builtin.Range.rangeFitsLong
 simp only [Bool.and_eq_true,Bool.or_eq_true,decide_eq_true_eq]
 refine ⟨⟨⟨⟨⟨by exact om94 h.1 rfl,by exact om95 h.1 rfl⟩,by exact om94 h.2.1 rfl,by exact om95 h.2.1 rfl⟩,by exact om94 h.2.2.1 rfl,by exact om95 h.2.2.1 rfl⟩,by exact om57 q1 rfl,by exact om58 q2 rfl⟩,.inr ?_⟩
 split <;> simp only [Bool.and_eq_true,decide_eq_true_eq] <;> omega
theorem rangeL_len {a b c:Int} (h:0<=Builtin.Range.rangeSize a b c):((rangeL a b c).length:Int)=Builtin.Range.rangeSize a b c:=by
 unfold rangeL
 rw [nY,List.length_range]
 exact Int.toNat_of_nonneg h
theorem iter_ok {src:AV} {c:List AV->(Store->Prop)->Prop} {v:Value} {Q:Value->Shared->Prop} (F:Facts0 B) (h:itemsC z.σ src c) (R:Rep B z) (hv:Vr B z src v)
  (hQ:∀ z' I items inv,c items inv->Go B none_ z z'->z'.k=z.k->z'.σ=z.σ->ItK B z' I 0 items inv->Priv B z' I->z.N<=I->inv z'.σ->Q (.ref I) z'.s):wpAny (model B.prog B.w) A (pyIter v) Q E z.s:=by
 have fin:∀ {items inv} (o:Obj),o.isFreed=false->c items inv->inv z.σ->((z.s.heap.push o).get? z.N=some o->ItK B (z.put (z.s.heap.push o) z.s.toks) z.N 0 items inv)->Q (.ref z.N) { z.s with heap:=z.s.heap.push o }:=fun {items inv} o ho hc hi hK =>
  hQ (z.put (z.s.heap.push o) z.s.toks) z.N items inv hc (Go.push R (fun b o e=>Heap.get?_push_of_some _ e) (push_le _ _) _) rfl rfl (hK (Heap.get?_push_size _ ho)) ((Priv.new R (nB _)).put _ _) (nB _) hi
 refine either h (fun uu h=>rngA (C:=fun a=>Vr B z a v->_) h (fun x y d h hv=>only h fun hr h=>?_) hv) fun uu h=>?_
 ·refine eX4 hv fun r t u w qA7=>eD2 qA7 fun eA7x4 hr'=>?_;obtain rfl:=eA7x4
  have hr:=rng_e hr
  refine wpAny_pyIter_range (R.stays _ _ hr') (range_small hr) (fin _ rfl h trivial fun e=>.rng x y d rfl (e.trans ?_))
  rw [rangeL_len (rangeSize_bounds hr).1]
  simp [rawInt]
 ·cases src
  all_goals first | exact h.elim | skip
  ·refine cellE h (fun vs hσ h=>?_) (fun kd es ep hσ h=>?_) fun uu uu uu h=>h.elim
   ·refine eX1 hv fun p qA8=>eD2 qA8 fun hp eA8x2=>?_;obtain rfl:=eA8x2
    obtain ⟨e0,its,k,e,r⟩:=R.cell _ _ p hσ hp
    exact wpAny_pyIter_list ⟨_,e,rfl,k,rfl⟩ (fin _ rfl h hσ fun e=>.row _ p.1 (hp.trans (congrArg some (Prod.ext rfl e0))) (fun uu q=>q) ⟨_,e,rfl,rfl⟩)
   ·refine eX1 hv fun p qA10=>eD2 qA10 fun hp eA10x2=>?_;obtain rfl:=eA10x2
    obtain ⟨e0,ents,D,hl,_⟩:=keys_obj R hσ hp
    exact iter_dict (live_ne F R hσ hp) D (fin _ rfl h hσ fun e=>.keys _ kd ep es p.1 (hp.trans (congrArg some (Prod.ext rfl e0))) (fun uu q=>q) rfl ⟨_,e,rfl,hl▸rfl⟩)
  ·refine eX3 hv fun l its k qA12=>eD3 qA12 fun eA12x3 e r=>?_;obtain rfl:=eA12x3
   exact wpAny_pyIter_tuple ⟨_,R.stays _ _ e,rfl,k,rfl⟩ (fin _ rfl h trivial fun e'=>.tup l its k e r ⟨_,e',rfl,rfl⟩)
  ·refine eX3 hv fun l its k qA13=>eD3 qA13 fun eA13x3 e r=>?_;obtain rfl:=eA13x3
   exact wpAny_pyIter_list ⟨_,R.stays _ _ e,rfl,k,rfl⟩ (fin _ rfl h trivial fun e'=>.lst l its k e r ⟨_,e',rfl,rfl⟩)
end
end
section
open PySem.SeqAt PySem.MeetsSeq
theorem nsSet_cls {M:Model} {A:Around} {a:Addr} {m:Str->Option Value} {name:Str} {v:Value} {Q:Unit->Shared->Prop} {E:Value->Shared->Prop} {s:Shared} (hn:s.heap.Ns a m)
  (h:∀ h',h'.Ns a (fun x=>if x=name then some v else m x)->Heap.SameBut a s.heap h'->(FO s.heap a->FO h' a)->Q () { s with heap:=h',toks:=s.toks+1 }):wpAny M A (nsSet a name v) Q E s:=fun Γ p hΓ=>by
 have key:=Sem.wp_nsSet M Γ (fun e uu s'=>E e s') p s hn name v (fun uu uu s'=>∃ h',h'.Ns a (fun x=>if x=name then some v else m x)/\Heap.SameBut a s.heap h'/\s'={ s with heap:=h',toks:=s.toks+1 }) (fun h' x y=>⟨h',x,y,rfl⟩)
 refine eX3 hn fun o es ep qA0=>eD4 qA0 fun ho hd hk hm=>?_
 have hany:es.any (·.refKey)=false:=by
  rw [Array.any_eq_false'];intro e he;refine eX2 (hk e he) fun n t h=>?_;exact Bool.eq_false_iff.mp (refKey_str h)
 simp only [nsSet,strHash,Sem.wp_bind',Sem.wp_cmd_ask,Sem.wp_pure',Sem.wp_cmd_mkText] at key ⊢
 rw [Sem.wp_loadPart_of M Γ _ p { s with toks:=s.toks+1 } (o:=o) _ ho] at key ⊢
 simp only [hd,aRefKeyMayBeTheName_at,hany,Bool.and_false,Bool.false_eq_true,if_false,Sem.wp_cmd_updatePart] at key ⊢
 obtain ⟨h1,h',n1,n2,e⟩:=key
 refine ⟨h1,?_⟩
 have eh:=congrArg Shared.heap e
 dsimp only at eh
 have:=h h' n1 n2 fun fo=>fo.elim fun o1 q=>?_
 ·rw [<- eh] at this;exact this
 ·cases ho.symm.trans q.1
  refine eX3 n1 fun o2 es2 ep2 qA3=>eD3 qA3 fun q1 q2 uu=>?_
  refine ⟨o2,q1,fun nf=>q.2 fun c=>nf ⟨?_,es2,ep2,q2⟩⟩
  rw [<- eh] at q1
  have hf:∀ (hsh:Int) (key:Value),(Obj.putName name hsh key v o).isFreed=false/\(Obj.putName name hsh key v o).cls=o.cls:=fun hsh key=>by
   obtain ⟨c,d,dt,sl⟩:=o
   subst hd
   rw [Obj.putName_eq]
   unfold Obj.putNameByArray
   dsimp only
   cases Array.findIdx? (fun x=>x.key.isStr name) es <;> exact ⟨rfl,rfl⟩
  rw [Heap.get?_update_self _ ho (hf _ _).1] at q1
  cases q1
  exact (hf _ _).2.trans c.1
theorem setE {vars:Vars} {i j:Nat} {x o:Option AV} {C:Prop} (h:(vars.set i x)[j]?=some o) (f:j=i->o=x->C) (g:i≠j->vars[j]?=some o->C):C:=by
 by_cases q:i=j
 ·subst q
  exact mapE (List.getElem?_set_self'.symm.trans h) fun y uu e=>f rfl e.symm
 ·exact g q ((List.getElem?_set_ne q).symm.trans h)
section
variable {B:Base} {A:Around} {z:Z} {env:Env} {ns:Names} {vars:Vars} {x:Str} {i:Nat} {a:AV} {v:Value} {Q:Unit->Shared->Prop} {E:Value->Shared->Prop}
theorem Own.less {b:Addr} (h:Own env ns (vars.set i (some a)) b):Own env ns vars b:=h.imp id fun h=>h.imp fun uu h=>h.imp fun uu h=>⟨h.1,setE h.2.1 (fun uu e=>nn e) fun uu q=>q,h.2.2⟩
theorem set_local (R:Rep B z) (F:FrZ B env ns vars z) (hi:ns[i]?=some (x,NameKind.local)) (ha:Vr B z a v)
  (hQ:∀ z',Go B (OwnB env ns) z z'->z'.k=z.k->z'.σ=z.σ->FrZ B env ns (vars.set i (some a)) z'->Q () z'.s):wpAny (model B.prog B.w) A (storeName env x v) Q E z.s:=by
 refine eX1 F.loc fun m qA5=>eD2 qA5 fun hm hl=>?_
 have kd:∀ {j y} {kd:NameKind},ns[j]?=some (y,kd)->kd≠NameKind.local->j=i->False:=fun e n q=>n (congrArg (·.2) (oJ ((q▸e.symm:_=ns[i]?).trans hi)))
 rw [storeName_local ((F.kinds i x _ hi).resolve_right fun q=>nomatch q.1) (by rw [F.kind];rfl)]
 refine nsSet_cls hm fun h' q1 q2 qc=>hQ (z.put h' (z.s.toks+1)) ((Go.mine R (Same.of_but q2) (fun b hb uu=>hb▸(F.out _ (.inl rfl)).1) (nG q2.1.symm) _).mono fun b hb=>.inl hb) rfl rfl
  ⟨F.kind,F.glob,F.blt,F.kinds,List.length_set.trans F.len,F.nodup,⟨_,q1,fun j y b e1 e2=>setE e2 (fun q e=>?_) fun q e=>(hl j y b e1 e).imp fun u r=>⟨(if_neg fun e=>q (nodup_at F.nodup hi (e▸e1))).trans r.1,r.2⟩⟩,
   fun j y k b e1 e2 e3=>F.cel j y k b e1 e2 (setE e3 (fun q uu=>(kd e1 (e2.elim (fun e=>e▸nofun) fun e=>e▸nofun) q).elim) fun uu e=>e),fun j y e1 e2=>(F.opn j y e1 (setE e2 (fun uu e=>nn e) fun uu e=>e)).imp fun c r=>⟨r.1,r.2.imp fun o r'=>⟨(q2.2 c (F.apart j y c e1 r.1)).trans r'.1,r'.2⟩⟩,
   fun b hb=>⟨(F.out b hb.less).1.put _ _,nD (F.out b hb.less).2 (nG q2.1.symm)⟩,F.code,F.apart,F.cinj,fun L hL=>⟨nD (F.lcls L hL).1 (nG q2.1.symm),fun e=>e.symm▸qc (e▸(F.lcls L hL).2 e)⟩⟩
 subst q
 cases hi.symm.trans e1
 exact ⟨v,if_pos rfl,oJ e▸ha⟩
theorem set_cell (R:Rep B z) (F:FrZ B env ns vars z) (hi:ns[i]?=some (x,NameKind.cell)) (hv:vars[i]?=some none) (ha:Vr B z a v)
  (hQ:∀ z',Go B (OwnB env ns) z z'->z'.k=z.k->z'.σ=z.σ->FrZ B env ns (vars.set i (some a)) z'->Q () z'.s):wpAny (model B.prog B.w) A (storeName env x v) Q E z.s:=by
 refine eX1 (F.opn i x hi hv) fun c qA6=>eD2 qA6 fun hc ho=>?_
 have P:=(F.out c (.inr ⟨i,x,hi,hv,hc⟩)).1
 have hcl:env.locals≠c:=Ne.symm (F.apart i x c hi hc)
 have kd:∀ {j y},ns[j]?=some (y,NameKind.local)->j=i->False:=fun e q=>nomatch (congrArg (·.2) (oJ ((q▸e.symm:_=ns[i]?).trans hi)):NameKind.local=.cell)
 refine wpAny_storeName_cell F.kind ((F.kinds i x _ hi).resolve_right fun q=>nomatch q.1) hc ho fun h' q1 q2=>q1.elim fun oc q3=>?_
 have g₁:=Go.mine (own:=(·=c)) R (Same.of_but q2) (fun b hb uu=>hb▸P) (nG q2.1.symm) z.s.toks
 refine eX1 (Go.freeze g₁.rep P.tab (fun i c p uu e=>P.ρ i p e) q3.1 fun q=>q.2.elim fun uu q=>q.elim fun uu q=>nomatch q3.2.symm.trans q) fun g' qA7=>eD2 qA7 fun x2 q5=>?_
 have g₂:=g₁.then x2
 have no:∀ {b},Own env ns (vars.set i (some a)) b->b≠c:=fun h e=>h.elim (fun h=>hcl (h.symm.trans e)) fun h=>h.elim fun j h=>h.elim fun y h=>setE h.2.1 (fun uu e=>nn e) fun q uu=>q (F.cinj i j x y c hi h.1 hc (h.2.2.trans (congrArg some e)))
 exact hQ ((z.put h' z.s.toks).gr g') (g₂.mono fun b hb=>.inr ⟨i,x,hi,hb▸hc⟩) rfl rfl
  ⟨F.kind,F.glob,F.blt,F.kinds,List.length_set.trans F.len,F.nodup,F.loc.imp fun m r=>⟨r.1.sameBut q2 hcl,fun j y b e1 e2=>(r.2 j y b e1 (setE e2 (fun q uu=>(kd e1 q).elim) fun uu e=>e)).imp fun u r=>⟨r.1,g₂.vr r.2⟩⟩,
   fun j y k b e1 e2 e3=>setE e3 (fun q e=>⟨c,v,congrArg (env.cells.lookup ·) (congrArg (·.1) (oJ ((q▸e1.symm:_=ns[i]?).trans hi))) |>.trans hc,⟨oc,q5,q3.2⟩,g₂.vr (oJ e▸ha)⟩) fun uu e=>(F.cel j y k b e1 e2 e).imp fun c' r=>r.imp fun u r=>⟨r.1,isCell_in g₂.gext r.2.1,g₂.vr r.2.2⟩,
   fun j y e1 e2=>setE e2 (fun uu e=>nn e) fun q e=>(F.opn j y e1 e).imp fun c' r=>⟨r.1,r.2.sameBut q2 fun e=>q (F.cinj i j x y c hi e1 hc (e▸r.1))⟩,
   fun b hb=>⟨(F.out b hb.less).1.step (F.out b hb.less).2 g₂ (no hb),nD (F.out b hb.less).2 g₂.size⟩,F.code,F.apart,F.cinj,fun L hL=>⟨nD (F.lcls L hL).1 g₂.size,fun e=>((F.lcls L hL).2 e).imp fun o r=>⟨(q2.2 L (e▸hcl)).trans r.1,r.2⟩⟩⟩
end
end
section
open PySem.SeqAt PySem.MeetsSeq
theorem tupI {a b:List AV} (h:AV.tup a=.tup b):a=b:=by cases h;rfl
section
variable {B:Base} {A:Around} {z:Z} {env:Env} {ns:Names} {vars:Vars}
theorem draw_ok {I:Nat} {items:List AV} {inv:Store->Prop} (hh:A.handled=none):∀ (m i:Nat) (z:Z),Rep B z->Priv B z I->ItK B z I i items inv->inv z.σ->i+m<=items.length->∀ (Q:List Value->Shared->Prop) (E:Value->Shared->Prop),
  (∀ z' l,Go B (·=I) z z'->z'.k=z.k->z'.σ=z.σ->Vrs B z' ((items.drop i).take m) l->ItK B z' I (i+m) items inv->Priv B z' I->Q l z'.s)->wpAny (model B.prog B.w) A (draw (.ref I) m) Q E z.s
 | 0,i,z,R,P,K,hi,hl,Q,E,hQ=>nF1 (hQ z [] (Go.refl R) rfl rfl (List.take_zero.symm▸trivial) K P)
 | m+1,i,z,R,P,K,hi,hl,Q,E,hQ=>by
  have hlt:i < items.length:=nD (Nat.lt_add_of_pos_right (Nat.succ_pos m)) hl
  have e:=Nat.succ_add_eq_add_succ i m
  skip
  refine nE1 (next_item hh R P K hi (nA1 hlt) fun z₁ v g₁ e1 e2 hv K₁ P₁=>?_)
  refine nE1 (nG1 (draw_ok hh m (i+1) z₁ g₁.rep P₁ K₁ (e2▸hi) (e▸hl) _ _ fun z₂ l g₂ e3 e4 hl K₂ P₂=>nF1 ?_))
  refine hQ z₂ (v :: l) (g₁.then g₂) (e3.trans e1) (e4.trans e2) ?_ (e▸K₂) P₂
  rw [List.drop_eq_getElem_cons hlt,List.take_succ_cons]
  exact ⟨g₂.vr hv,hl⟩
theorem seq_items {σ:Store} {src:AV} {fR:List AV->Prop} (h:onSeq σ src fR f3):itemsC σ src fun items uu=>fR items :=
 seqE (C:=fun a=>itemsC σ a fun items uu=>fR items) h (fun uu h=>h) (fun uu h=>h) (fun i vs e h=>onL e h) fun uu uu uu uu uu h=>h.elim
theorem unpackItems_ok {src:AV} {fR:List AV->Prop} {v:Value} {n:Nat} {Q:List Value->Shared->Prop} {E:Value->Shared->Prop} (F:Facts0 B) (hh:A.handled=none) (h:onSeq z.σ src fR f3) (hn:∀ items,fR items->items.length=n) (R:Rep B z) (hv:Vr B z src v)
  (hQ:∀ z' items l,fR items->Go B none_ z z'->z'.k=z.k->z'.σ=z.σ->Vrs B z' items l->Q l z'.s):wpAny (model B.prog B.w) A (unpackItems v n none) Q E z.s:=by
 have ht:∃ T id,z.s.TypeIs v T/\typeLookup (.type T) "__iter__"=pure (some (.builtin id)) :=
  have row:∀ {T id g f},(∀ b o,g.get? b=some o->z.s.heap.get? b=some o)->RowAt g T f v->typeLookup (.type T) "__iter__"=pure (some (.builtin id))->∃ T id,z.s.TypeIs v T/\typeLookup (.type T) "__iter__"=pure (some (.builtin id)):=fun {T id g f} hg r hl =>
   r.elim fun a r=>r.elim fun its r=>r.elim fun k r=>⟨T,id,r.1▸⟨_,hg _ _ r.2.1,rfl⟩,hl⟩
  seqE (C:=fun a=>Vr B z a v->_) h (fun uu uu hv=>row R.stays hv PySem.F.slot_tuple_iter.lookup) (fun uu uu hv=>row R.stays hv slot_list_iter.lookup) (fun i vs hσ uu hv=>(cell_row R hσ hv).elim fun l r=>r.elim fun its r=>r.elim fun k r=>⟨"list",_,r.1▸⟨_,r.2.1,rfl⟩,slot_list_iter.lookup⟩) (fun uu uu uu uu uu h=>h.elim) hv
 refine eX2 ht fun T id qA0=>eD2 qA0 fun hT hl=>?_
 skip
 refine nE1 (nE1 (wpAny_specialOf hT hl (nF1 ?_)))
 refine nE1 (nG1 (iter_ok F (seq_items h) R hv fun z₁ I items inv hf g₁ e1 e2 K P hI hi=>?_))
 have hz:0+n<=items.length:=nG ((Nat.zero_add n).trans (hn _ hf).symm)
 refine nE1 (nG1 (draw_ok hh n 0 z₁ g₁.rep P K hi hz _ _ fun z₂ l g₂ e3 e4 hl K₂ P₂=>?_))
 rw [List.drop_zero,<- hn _ hf,List.take_length] at hl
 rw [if_neg (by rw [<- vrs_length hl,hn _ hf];exact nT n)]
 refine nE1 (nG1 (next_end hh g₂.rep P₂ K₂ (e4▸hi) (nG ((hn _ hf).trans (Nat.zero_add n).symm)) fun z₃ g₃ e5 e6=>?_))
 have no:∀ a,a < z.N->a=I->none_ a:=fun a ha e=>absurd ha (nK.mpr (e▸hI))
 exact nF1 (hQ z₃ items l hf ((g₁.trans g₂ (fun uu q=>q) no).trans g₃ (fun uu q=>q) no) ((e5.trans e3).trans e1) ((e6.trans e4).trans e2) (g₃.vrs hl))
theorem each_eq {env:Env}:∀ {es:List Expr},(es.all fun e=>!isStarred e)=true->assignEach es env=es.map fun e=>(false,assign e env)
 | [],_=>rfl
 | e :: es,h=>band h fun h1 h2=>(by have:=bnot h1;cases e <;> first | rfl | exact ff this.symm:assignEach (e :: es) env=(false,assign e env) :: assignEach es env).trans (congrArg _ (each_eq h2))
theorem each_star {env:Env}:∀ {es:List Expr},(es.map fun e=>(false,assign e env)).findIdx? (·.1)=none
 | []=>rfl
 | e :: es=>by rw [nD1,List.findIdx?_cons,each_star];rfl
theorem unpack_ok {src:AV} {fR:List AV->Prop} {v:Value} {es0:List Expr} {Q:Unit->Shared->Prop} {E:Value->Shared->Prop} (F:Facts0 B) (hh:A.handled=none) (hs:(es0.all fun e=>!isStarred e)=true) (h:onSeq z.σ src fR f3) (hn:∀ items,fR items->items.length=es0.length) (R:Rep B z) (hv:Vr B z src v) {kk:Nat} {p:Pos}
  (hQ:∀ z' items l,fR items->Go B none_ z z'->z'.k=z.k->z'.σ=z.σ->Vrs B z' items l->wpAny (model B.prog B.w) A (assignInOrder (es0.map fun e=>assign e env) l) Q E z'.s):wpAny (model B.prog B.w) A (assign (.Tuple es0 kk p) env v) Q E z.s:=by
 skip
 refine nE1 (wpAny_standAt ?_)
 unfold unpack
 rw [each_eq hs,each_star,nY]
 refine nE1 (nG1 (unpackItems_ok F hh h hn R hv fun z' items l hf g e1 e2 hl=>?_))
 have:(es0.map fun e=>(false,assign e env)).map (·.2)=es0.map fun e=>assign e env:=List.map_map
 rw [this]
 exact hQ z' items l hf g e1 e2 hl
noncomputable def AsgOk (B:Base) (ns:Names) (t0:Expr) (t:T):Prop :=
 ∀ (A:Around) (env:Env) (vars vars':Vars) (z:Z) (a:AV) (v:Value) (Q:Unit->Shared->Prop) (E:Value->Shared->Prop),asT t a vars=some vars'->A.handled=none->Rep B z->FrZ B env ns vars z->Vr B z a v ->
  (∀ z',Go B (OwnB env ns) z z'->z'.k=z.k->z'.σ=z.σ->FrZ B env ns vars' z'->Q () z'.s)->wpAny (model B.prog B.w) A (assign t0 env v) Q E z.s
noncomputable def AsgsOk (B:Base) (ns:Names) (ts0:List Expr) (t:T):Prop :=
 ∀ (A:Around) (env:Env) (vars vars':Vars) (z:Z) (as:List AV) (vs:List Value) (Q:Unit->Shared->Prop) (E:Value->Shared->Prop),asT t (.tup as) vars=some vars'->A.handled=none->Rep B z->FrZ B env ns vars z->Vrs B z as vs ->
  (∀ z',Go B (OwnB env ns) z z'->z'.k=z.k->z'.σ=z.σ->FrZ B env ns vars' z'->Q () z'.s)->wpAny (model B.prog B.w) A (assignInOrder (ts0.map fun e=>assign e env) vs) Q E z.s
theorem asT_len {B:Base} {ns:Names}:∀ {t:T} {ts0:List Expr},(chkT t ns).2 ts0=true->(ts0.all fun e=>!isStarred e)=true/\∀ {a vars vars'},asT t a vars=some vars'->∃ as,a=.tup as/\as.length=ts0.length
 | .nil,ts0,h=>lNil_e (C:=fun ts0=>(ts0.all fun e=>!isStarred e)=true/\∀ {a vars vars'},asT .nil a vars=some vars'->∃ as,a=.tup as/\as.length=ts0.length) h ⟨rfl,fun {a vars vars'} h=>condE h fun h uu=>by
   cases a <;> first | exact ff h | exact lNil_e (C:=fun l=>∃ as,AV.tup l=.tup as/\as.length=0) h ⟨[],rfl,rfl⟩⟩
 | .cons t ts,ts0,h=>lCons_e (C:=fun ts0=>(ts0.all fun e=>!isStarred e)=true/\∀ {a vars vars'},asT (.cons t ts) a vars=some vars'->∃ as,a=.tup as/\as.length=ts0.length) h fun e r h=>band h fun h1 h2=>by
  have q:=asT_len (B:=B) h2
  refine ⟨Bool.and_eq_true_iff.mpr ⟨?_,q.1⟩,fun {a vars vars'} h=>?_⟩
  ·cases t <;> first | exact ff h1 | exact eName_e (C:=fun e=>(!isStarred e)=true) h1 fun uu uu uu=>rfl | exact eTuple_e (C:=fun e=>(!isStarred e)=true) h1 fun uu uu uu uu=>rfl
  ·cases a <;> first | exact nn h | skip
   rename_i vs
   cases vs with
   | nil=>exact nn h
   | cons v vs=>exact bindE h fun w uu h=>(q.2 h).elim fun as r=>⟨v :: vs,rfl,congrArg (·+1) ((congrArg List.length (tupI r.1)).trans r.2)⟩
 | .loc _,_,h=>ff h
 | .cel _,_,h=>ff h
 | .tup _,_,h=>ff h
theorem asgOk (F0:Facts0 B):∀ (t:T),(∀ t0,(chkT t ns).1 t0=true->AsgOk B ns t0 t)/\∀ ts0,(chkT t ns).2 ts0=true->AsgsOk B ns ts0 t
 | .loc i=>⟨fun t0 h=>eName_e (C:=fun t0=>AsgOk B ns t0 (.loc i)) h fun x p h A env vars vars' z a v Q E ha hh R F hv hQ=>atK_e h fun k hk q=>wpAny_assign_Name (set_local R F (eq_of_beq q▸hk) hv (oJ ha▸hQ)),fun uu h=>ff h⟩
 | .cel i=>⟨fun t0 h=>eName_e (C:=fun t0=>AsgOk B ns t0 (.cel i)) h fun x p h A env vars vars' z a v Q E ha hh R F hv hQ=>atK_e h fun k hk q=>bindE ha fun o ho ha=>by
   cases o with
   | some=>exact nn ha
   | none=>exact wpAny_assign_Name (set_cell R F (eq_of_beq q▸hk) ho hv (oJ ha▸hQ)),fun uu h=>ff h⟩
 | .tup ts=>⟨fun t0 h=>eTuple_e (C:=fun t0=>AsgOk B ns t0 (.tup ts)) h fun es kk p h A env vars vars' z a v Q E ha hh R F hv hQ=>by
   have q:=asT_len (B:=B) h
   refine eX1 (q.2 ha) fun as qA1=>eD2 qA1 fun eA1x1 hl=>?_;obtain rfl:=eA1x1
   exact unpack_ok (src:=.tup as) (fR:=fun items=>items=as) F0 hh q.1 rfl (fun items e=>e▸hl) R hv fun z₁ items l e g₁ e1 e2 hl=>(asgOk F0 ts).2 es h A env vars vars' z₁ as l Q E ha hh g₁.rep (F.go g₁) (e▸hl) fun z₂ g₂ e3 e4 F₂=>hQ z₂ (g₁.of.then g₂) (e3.trans e1) (e4.trans e2) F₂,fun uu h=>ff h⟩
 | .nil=>⟨fun uu h=>ff h,fun ts0 h=>lNil_e (C:=fun ts0=>AsgsOk B ns ts0 .nil) h fun A env vars vars' z as vs Q E h hh R F hv hQ=>condE h fun h1 h2=>nF1 (hQ z (Go.refl R) rfl rfl (h2▸F))⟩
 | .cons t ts=>⟨fun uu h=>ff h,fun ts0 h=>lCons_e (C:=fun ts0=>AsgsOk B ns ts0 (.cons t ts)) h fun t0 ts0 h=>band h fun h1 h2 A env vars vars' z as vs Q E h hh R F hv hQ=>by
  cases as with
  | nil=>exact nn h
  | cons a as =>
   cases vs with
   | nil=>exact hv.elim
   | cons v vs =>
    refine bindE h fun vars₁ q h=>?_
    skip
    refine nE1 (nG1 ((asgOk F0 t).1 t0 h1 A env vars vars₁ z a v _ E q hh R F hv.1 fun z₁ g₁ e1 e2 F₁=>?_))
    exact (asgOk F0 ts).2 ts0 h2 A env vars₁ vars' z₁ as vs Q E h hh g₁.rep F₁ (g₁.vrs hv.2) fun z₂ g₂ e3 e4 F₂=>hQ z₂ (g₁.then g₂) (e3.trans e1) (e4.trans e2) F₂⟩
end
end
section
open PySem.SeqAt PySem.MeetsSeq
noncomputable def closeAcc (env:Env):Names->List (Str×Addr)->Option (List (Str×Addr))
 | [],acc=>some acc
 | y :: r,acc=>cond (y.2==.free) ((env.cells.lookup y.1).bind fun c=>closeAcc env r ((y.1,c) :: acc)) (closeAcc env r acc)
theorem closureFor_acc {scope:Scope} {env:Env} {cl:List (Str×Addr)} (h:closeAcc env scope.names []=some cl):closureFor scope env=pure cl:=by
 unfold closureFor
 have go:∀ (l:Names) (acc cl:List (Str×Addr)),closeAcc env l acc=some cl ->
   forIn l acc (fun (x:Str×NameKind) (r:List (Str×Addr))=>(match x with | (name,kind)=>if (kind==NameKind.free)=true then do let y <- cellOf env name;pure (ForInStep.yield ((name,y) :: r)) else pure (ForInStep.yield r):Sem (ForInStep (List (Str×Addr)))))=pure cl:=by
  intro l
  induction l with
  | nil=>intro acc cl h;obtain rfl:=oJ h;rfl
  | cons p r ih =>
   intro acc cl h
   rw [List.forIn_cons]
   unfold closeAcc at h
   dsimp only
   cases hk:p.2==NameKind.free with
   | true =>
    rw [hk] at h
    refine bindE h fun c hc h=>?_
    rw [if_pos rfl,show cellOf env p.1=pure c by unfold cellOf;rw [hc],pure_bind,pure_bind]
    exact ih _ _ h
   | false =>
    rw [hk] at h
    rw [if_neg nofun,pure_bind]
    exact ih _ _ h
 have:=go scope.names [] cl h
 simp only [this,pure_bind]
theorem lookup_ne {α:Type} {x y:Str} {k:α} {r:List (Str×α)} (q:x≠y):((y,k) :: r).lookup x=r.lookup x:=by rw [List.lookup_cons,beq_false_of_ne q]
theorem closeAcc_lookup {env:Env}:∀ {l:Names} {acc cl:List (Str×Addr)},closeAcc env l acc=some cl->(l.map (·.1)).Nodup->∀ x,((x,NameKind.free)∈l->cl.lookup x=env.cells.lookup x)/\((x,NameKind.free) ∉ l->cl.lookup x=acc.lookup x)
 | [],acc,cl,h,_,x=>⟨nofun,fun uu=>oJ h▸rfl⟩
 | y :: r,acc,cl,h,hn,x=>by
  rw [nD1,nB1] at hn
  unfold closeAcc at h
  cases hk:y.2==NameKind.free with
  | true =>
   rw [hk] at h
   refine bindE h fun c hc h=>?_
   have ih:=closeAcc_lookup h hn.2 x
   refine ⟨fun e=>(nZ.mp e).elim (fun e=>?_) ih.1,fun e=>(ih.2 fun e'=>e (.tail _ e')).trans (lookup_ne fun q=>e (q▸eq_of_beq hk▸.head _))⟩
   have q:x=y.1:=congrArg (·.1) e
   subst q
   exact (ih.2 fun e=>hn.1 (List.mem_map.mpr ⟨_,e,rfl⟩)).trans (List.lookup_cons_self.trans hc.symm)
  | false =>
   rw [hk] at h
   have ih:=closeAcc_lookup h hn.2 x
   exact ⟨fun e=>(nZ.mp e).elim (fun e=>ff (hk.symm.trans (e▸beq_self_eq_true NameKind.free))) ih.1,fun e=>ih.2 fun e'=>e (.tail _ e')⟩
theorem closeAcc_some {env:Env}:∀ {l:Names} {acc:List (Str×Addr)},(∀ x,(x,NameKind.free)∈l->(env.cells.lookup x).isSome)->∃ cl,closeAcc env l acc=some cl
 | [],acc,_=>⟨acc,rfl⟩
 | y :: r,acc,h=>by
  unfold closeAcc
  cases hk:y.2==NameKind.free with
  | true =>
   refine eX1 (Option.isSome_iff_exists.mp (h y.1 (eq_of_beq hk▸.head _))) fun c hc=>?_
   rw [hc]
   exact closeAcc_some fun x e=>h x (.tail _ e)
  | false=>exact closeAcc_some fun x e=>h x (.tail _ e)
theorem onlyO {α:Type} {b:Bool} {o:Option α} {y:α} {C:Prop} (h:cond b o none=some y) (f:b=true->o=some y->C):C:=by cases b <;> first | exact nn h | exact f rfl h
theorem slot_get {x:Str} {kd:NameKind}:∀ {ns:Names} {m:Nat},ns.lookup x=some kd->(ns.findIdx? fun z=>z.1==x)=some m->ns[m]?=some (x,kd)
 | [],_,h,_=>nn h
 | y :: r,m,h,h2=>by
  rw [List.findIdx?_cons] at h2
  by_cases q:y.1=x
  ·subst q
   rw [beq_self_eq_true,if_pos rfl] at h2
   exact oJ h2▸congrArg (fun o=>o.map fun k=>(y.1,k)) (List.lookup_cons_self.symm.trans h)
  ·rw [beq_false_of_ne q,if_neg nofun] at h2
   exact mapE h2 fun j hj e=>e▸slot_get (ns:=r) ((lookup_ne (k:=y.2) (Ne.symm q)).symm.trans h) hj
theorem lookup_at {x:Str} {kd:NameKind}:∀ {ns:Names} {i:Nat},(ns.map (·.1)).Nodup->ns[i]?=some (x,kd)->ns.lookup x=some kd
 | [],_,_,h=>nn h
 | y :: r,0,_,h=>oJ h▸List.lookup_cons_self
 | y :: r,i+1,hn,h=>(lookup_ne fun q=>(nB1.mp hn).1 (List.mem_map.mpr ⟨_,List.mem_of_getElem? (h:r[i]?=_),q⟩)).trans (lookup_at (nB1.mp hn).2 h)
theorem capsOf_mem {outer:Names}:∀ {l:Names} {i:Nat} {cs:List (Nat×Nat)},capsOf outer i l=some cs->∀ {j m},(j,m)∈cs->∃ d x,j=i+d/\l[d]?=some (x,NameKind.free)/\outer[m]?=some (x,NameKind.cell)
 | [],i,cs,h,j,m,e=>nomatch (oJ h▸e:(j,m)∈[])
 | y :: r,i,cs,h,j,m,e=>bindE h fun cs' h' h=>by
  have rest:(j,m)∈cs'->∃ d x,j=i+d/\(y :: r)[d]?=some (x,NameKind.free)/\outer[m]?=some (x,NameKind.cell):=fun e=>(capsOf_mem h' e).elim fun d q=>q.elim fun x q=>⟨d+1,x,q.1.trans (Nat.succ_add_eq_add_succ i d),q.2⟩
  cases hk:y.2==NameKind.free with
  | true =>
   rw [hk] at h
   refine onlyO h fun hl h=>mapE h fun m' hm h=>?_
   refine (nZ.mp (h▸e)).elim (fun e=>⟨0,y.1,congrArg (·.1) e,congrArg some (Prod.ext rfl (eq_of_beq hk)),?_⟩) rest
   exact (congrArg (·.2) e:m=m')▸slot_get (eq_of_beq hl) hm
  | false =>
   rw [hk] at h
   exact rest (oJ h▸e)
theorem capsOf_at {outer:Names} {x:Str}:∀ {l:Names} {i:Nat} {cs:List (Nat×Nat)},capsOf outer i l=some cs->(x,NameKind.free)∈l->∃ m:Nat,outer[m]?=some (x,NameKind.cell)
 | [],_,_,_,e=>nomatch e
 | y :: r,i,cs,h,e=>bindE h fun cs' h' h=>(nZ.mp e).elim (fun e=>by
   obtain rfl:=e
   exact onlyO (h:cond _ _ none=_) fun hl h=>mapE h fun m' hm uu=>⟨m',slot_get (eq_of_beq hl) hm⟩) fun e=>capsOf_at h' e
theorem getD_some {α:Type} {o:Option (Option α)} {a:α} (h:some a=o.getD none):o=some (some a):=by cases o <;> first | exact nn h.symm | exact congrArg some h.symm
theorem capture_len {outer:Vars}:∀ {cs:List (Nat×Nat)} {vars:Vars},(capture outer cs vars).length=vars.length
 | [],_=>rfl
 | _ :: r,_=>(capture_len (cs:=r)).trans List.length_set
theorem capture_get {outer:Vars} {j:Nat} {a:AV}:∀ {cs:List (Nat×Nat)} {vars:Vars},(capture outer cs vars)[j]?=some (some a)->vars[j]?=some (some a)∨∃ m,(j,m)∈cs/\outer[m]?=some (some a)
 | [],_,h=>.inl h
 | p :: r,vars,h=>(capture_get (cs:=r) h).elim (fun q=>setE q (fun e1 e2=>.inr ⟨p.2,e1▸.head _,getD_some e2⟩) fun uu q=>.inl q) fun q=>.inr (q.imp fun uu q=>⟨.tail _ q.1,q.2⟩)
theorem relabel_kind {sc:Scope} {env:Env} {i:Nat} {x:Str} {kd:NameKind} (hn:(sc.names.map (·.1)).Nodup) (h:sc.names[i]?=some (x,kd)):kindOk kd ((relabel sc env).names.lookup x):=by
 let f:Str×NameKind->Str×NameKind:=fun (n,k)=>if (k==.free&&env.scope.kind==.function&&env.kindOf n==some .cell) then (n,NameKind.cell) else (n,k)
 have f1:∀ y,(f y).1=y.1:=fun y=>by show (if _ then _ else _:Str×NameKind).1=y.1;split <;> rfl
 have hn':((sc.names.map f).map (·.1)).Nodup:=by rw [List.map_map,show (fun y=>y.1) ∘ f=(·.1) from funext f1];exact hn
 have h':(sc.names.map f)[i]?=some (x,(f (x,kd)).2):=(List.getElem?_map ..).trans ((congrArg (Option.map f) h).trans (congrArg some (Prod.ext (f1 (x,kd)) rfl)))
 have e:=lookup_at hn' h'
 show kindOk kd ((sc.names.map f).lookup x)
 rw [e]
 show kindOk kd (some (if (kd==.free&&env.scope.kind==.function&&env.kindOf x==some .cell)=true then (x,NameKind.cell) else (x,kd)).2)
 by_cases c:(kd==.free&&env.scope.kind==.function&&env.kindOf x==some .cell)=true
 ·rw [if_pos c]
  exact band c fun c uu=>band c fun c uu=>.inr ⟨eq_of_beq c,rfl⟩
 ·rw [if_neg c]
  exact .inl rfl
structure ScOk (B:Base) (ns:Names) (sc:Scope) (caps:List (Nat×Nat)):Prop where
 kind:sc.kind=.function
 nocell:∀ (i:Nat) (x:Str),sc.names[i]?≠some (x,NameKind.cell)
 nodup:(sc.names.map (·.1)).Nodup
 caps:capsOf ns 0 sc.names=some caps
 cdo:B.P.cdo sc.names=none
theorem ScOk.of {B:Base} {ns:Names} {sc:Scope} {caps:List (Nat×Nat)} (hc:∀ ns,lamIdx ns=none->B.P.cdo ns=none) (h:scFine sc=true) (hcaps:capsOf ns 0 sc.names=some caps):ScOk B ns sc caps :=
 band h fun h h4=>band h fun h h3=>band h fun h1 h2=>⟨eq_of_beq h1,fun i x e=>ff ((nC1.mp h2 _ (List.mem_of_getElem? e)).symm.trans rfl).symm,of_decide_eq_true h3,hcaps,hc _ (Option.isNone_iff_eq_none.mp h4)⟩
section
variable {B:Base} {z:Z} {env:Env} {ns:Names} {vars:Vars} {sc:Scope} {caps:List (Nat×Nat)} {cl:List (Str×Addr)}
theorem comp_frame {C:Addr} {m:Str->Option Value} (F:FrZ B env ns vars z) (S:ScOk B ns sc caps) (hcl:closeAcc env sc.names []=some cl) (hC:z.s.heap.Ns C m) (P:Priv B z C) (lt:(C:Nat) < z.N) (hCf:env.frame≠some C) :
  FrZ B (compEnvC sc cl C env) sc.names (capture vars caps (List.replicate sc.names.length none)) z:=by
 have cap:∀ {j x kd} {a:AV},sc.names[j]?=some (x,kd)->(capture vars caps (List.replicate sc.names.length none))[j]?=some (some a)->kd=NameKind.free/\∃ m,ns[m]?=some (x,NameKind.cell)/\vars[m]?=some (some a):=fun {j x kd a} e1 e2 =>
  (capture_get e2).elim (fun q=>nomatch (List.mem_replicate.mp (List.mem_of_getElem? q)).2) fun q=>q.elim fun m q=>(capsOf_mem S.caps q.1).elim fun d r=>r.elim fun y r=>by
   have:=r.1.trans (Nat.zero_add d)
   subst this
   cases e1.symm.trans r.2.1
   exact ⟨rfl,m,r.2.2,q.2⟩
 exact ⟨S.kind,F.glob,F.blt,fun i x kd h=>relabel_kind S.nodup h,capture_len.trans List.length_replicate,S.nodup,⟨m,hC,fun i x a e1 e2=>nomatch (cap e1 e2).1⟩,
  fun i x kd a e1 e2 e3=>(cap e1 e3).2.elim fun m q=>(F.cel m x .cell a q.1 (.inl rfl) q.2).imp fun c r=>r.imp fun v r=>⟨((closeAcc_lookup hcl S.nodup x).1 ((cap e1 e3).1▸List.mem_of_getElem? e1)).trans r.1,r.2⟩,
  fun i x e1=>absurd e1 (S.nocell i x),fun a ha=>ha.elim (fun e=>e▸⟨P,lt⟩) fun q=>q.elim fun i q=>q.elim fun x q=>absurd q.1 (S.nocell i x),fun c t q e=>nn (S.cdo.symm.trans e),fun i x c e1=>absurd e1 (S.nocell i x),fun i j x y c e1=>absurd e1 (S.nocell i x),
  fun L hL=>⟨(F.lcls L hL).1,fun e=>absurd (hL.trans (congrArg some e)) hCf⟩⟩
theorem comp_close (F:FrZ B env ns vars z) (S:ScOk B ns sc caps):∃ cl,closeAcc env sc.names []=some cl:=closeAcc_some fun x hx=>(capsOf_at S.caps hx).elim fun m hm=>by
 have hl:m < vars.length:=F.len▸(List.getElem?_eq_some_iff.mp hm).1
 cases hv:vars[m] with
 | none=>exact (F.opn m x hm ((nA1 hl).trans (congrArg some hv))).elim fun c w=>congrArg Option.isSome w.1
 | some a=>exact (F.cel m x .cell a hm (.inl rfl) ((nA1 hl).trans (congrArg some hv))).elim fun c w=>w.elim fun uu w=>congrArg Option.isSome w.1
end
end
section
open PySem.SeqAt PySem.MeetsSeq
noncomputable def tests (ifs0:List Expr) (env:Env) (b:Bool):Sem Bool:=forIn ifs0 b fun c r=>if r=true then do let ok <- isTrue c env (eval c env);pure (ForInStep.yield ok) else pure (ForInStep.yield r)
theorem tests_false (env:Env):∀ (ifs0:List Expr),tests ifs0 env false=pure false
 | []=>rfl
 | c :: cs=>by
  unfold tests
  rw [List.forIn_cons,if_neg nofun,pure_bind]
  exact tests_false env cs
theorem tests_all (env:Env):∀ (ifs0:List Expr),tests ifs0 env true=allTrue .And ifs0 env
 | []=>rfl
 | c :: cs=>by
  unfold tests
  rw [List.forIn_cons,if_pos rfl,bind_assoc]
  show _=(isTrue c env (eval c env) >>= _)
  refine congrArg _ (funext fun b=>?_)
  rw [pure_bind]
  cases b with
  | true=>exact tests_all env cs
  | false=>exact tests_false env cs
section
variable {prog:Program} {w:World} {A:Around} {R:Result->Shared->Prop}
theorem comp_turns {elt target iter:Expr} {ifs:List Expr} {scope:Scope} {pos:Pos} {it acc:Value} {env:Env} (I:Nat->Shared->Prop)
  (turn:∀ n s (E:Value->Shared->Prop),I n s->wpAny (model prog w) A (pyNext it) (fun r s₁=>r.casesOn (R (.ok .next) s₁)
   fun v=>wpAny (model prog w) A (letOwnedTupleGo target it v) (fun uu s₁'=>wpAny (model prog w) A (assign target env v) (fun uu s₂ =>
     wpAny (model prog w) A (allTrue .And ifs env) (fun ok s₃=>cond ok (wpAny (model prog w) A (eval elt env) (fun x s₄=>wpAny (model prog w) A (call (.builtin "list.append") [acc,x]) (fun uu s₅=>∃ m,m < n/\I m s₅) E s₄) E s₃) (∃ m,m < n/\I m s₃)) E s₂) E s₁') E s₁) E s)
  (n:Nat) {s:Shared} (h:I n s):codeAny (model prog w) A (.compLoop (.ListComp elt [⟨target,iter,ifs,0⟩] scope pos) 0 it acc env) R s:=by
 refine codeAny_loop rfl I (fun n s hI=>?_) n h
 show wpAny _ A ((compTurn (.ListComp elt [⟨target,iter,ifs,0⟩] scope pos) 0 it acc env).onRaise (fun x=>do noteFrame x env;theTreesLotGoes x)) _ _ s
 refine wpAny_noted ?_
 rw [compTurn_list]
 refine nE1 (wpAny_standAt (nE1 (wpAny_mono (turn n s _ hI) (fun r s₁ h₁=>?_) fun uu uu h'=>h')))
 cases r with
 | none=>exact nF1 h₁
 | some v =>
  refine nE1 (wpAny_mono h₁ (fun uu s₁' h₁'=>nE1 (wpAny_mono h₁' (fun uu s₂ h₂=>?_) fun uu uu h'=>h')) fun uu uu h'=>h')
  refine nE1 ((tests_all env ifs).symm▸wpAny_mono h₂ (fun ok s₃ h₃=>?_) fun uu uu h'=>h':wpAny _ _ (tests ifs env true) _ _ _)
  cases ok with
  | false=>exact nF1 ⟨rfl,h₃⟩
  | true=>exact nE1 (nE1 (wpAny_mono h₃ (fun x s₄ h₄=>nE1 (wpAny_mono h₄ (fun uu s₅ h₅=>nF1 (nF1 ⟨rfl,h₅⟩)) fun uu uu h'=>h')) fun uu uu h'=>h'))
end
structure AccAt (B:Base) (z:Z) (D:Addr) (acc:List AV):Prop where
 priv:Priv B z D
 is:∃ its k,z.s.heap.get? D=some (rowObj "list" its k)/\Vrs B z acc its.toList
section
variable {B:Base} {A:Around} {own:Addr->Prop} {z z':Z} {D:Addr} {acc:List AV}
theorem AccAt.step (x:AccAt B z D acc) (g:Go B own z z') (ho:¬ own D):AccAt B z' D acc :=
 x.is.elim fun its q=>q.elim fun k q=>⟨x.priv.step (Heap.lt_size q.1) g ho,its,k,g.same.plain q.1 (x.priv.out ho) (nf_of rfl rfl),g.vrs q.2⟩
theorem acc_append {a:AV} {v:Value} {Q E:Value->Shared->Prop} (R:Rep B z) (x:AccAt B z D acc) (hl:acc.length < 1000) (hv:Vr B z a v)
  (hQ:∀ z' u,Go B (·=D) z z'->z'.k=z.k->z'.σ=z.σ->AccAt B z' D (acc ++ [a])->Q u z'.s):wpAny (model B.prog B.w) A (call (.builtin "list.append") [.ref D,v]) Q E z.s:=by
 refine eX2 x.is fun its k qA0=>eD2 qA0 fun e r=>?_
 refine call_meets PySem.F.slot_list_append ⟨_,e,rfl⟩ PySem.F.entry_list_append (PySem.F.args_list_append_2 _ _) (list_append D its k v (line_ok (row_len r▸hl))) ⟨e,?_⟩
 have hs:=Heap.SameBut.update z.s.heap D (Obj.mapSeq fun xs=>xs.push v)
 exact hQ (z.put _ z.s.toks) _ (go_own R x.priv hs.extBut (nG hs.1.symm) z.s.toks) rfl rfl ⟨x.priv.put _ _,_,_,IsL.update e fun xs=>xs.push v,(Array.toList_push (xs:=its) (x:=v)).symm▸vrs_append (bs:=[a]) (us:=[v]) ⟨hv,trivial⟩ r⟩
theorem acc_out {m:Bool} {Q:PostV} {C:Prop} (R:Rep B z) (x:AccAt B z D acc) (hq:mkList m acc z.k z.σ Q) (f:∀ z' a,Go B (·=D) z z'->z'.s=z.s->Vr B z' a (.ref D)->Q a z'.k z'.σ->C):C:=by
 refine eX2 x.is fun its k qA1=>eD2 qA1 fun e r=>?_
 cases m with
 | false =>
  refine eX1 (Go.freeze R x.priv.tab (fun i c p uu e=>x.priv.ρ i p e) e (nf_of rfl rfl)) fun g' qA2=>eD2 qA2 fun y h=>?_
  exact f (z.gr g') (.lst acc) y rfl ⟨D,its,k,rfl,h,y.vrs r⟩ hq
 | true =>
  exact f (z.more (D,none) (.list acc)) (.cell z.k) ((Go.adopt (p:=(D,none)) (c:=.list acc) R (fun a ha=>(at1 ha).symm▸x.priv) ⟨rfl,its,k,e,r⟩).mono fun a ha=>at1 ha) rfl ⟨_,if_pos rfl,rfl⟩ hq
end
structure CSt (z₀:Z) (I D C:Nat) (cenv:Env) (ns:Names):Prop where
 own:∀ b,OwnB cenv ns b->b=C
 sI:z₀.N<=I
 sD:z₀.N<=D
 sC:z₀.N<=C
 ID:I≠D
 IC:I≠C
 DC:D≠C
abbrev CW (Y:Sys) (elt:E) (ifs:E) (t:T) (inv:Store->Prop):List AV->List AV->Vars->Nat->Store->(List AV->Nat->Store->Prop)->Prop :=
 compW (fun vs k σ Q=>evW Y.cw elt vs k σ Q f3) (fun vs k σ Q=>bopW Y.cw ifs .And vs k σ (fun a k σ=>truthW a fun b=>Q b k σ) f3) t inv
structure CInv (Y:Sys) (z₀ z:Z) (I D i:Nat) (items:List AV) (inv:Store->Prop) (cenv:Env) (ns:Names) (W:List AV->List AV->Vars->Nat->Store->Prop) (acc left:List AV) (vars:Vars):Prop where
 go:Go Y.B none_ z₀ z
 pI:Priv Y.B z I
 it:ItK Y.B z I i items inv
 drop:items.drop i=left
 hacc:AccAt Y.B z D acc
 fr:FrZ Y.B cenv ns vars z
 w:W left acc vars z.k z.σ
 len:acc.length+left.length < 1000
theorem drop_one {α:Type} {l r:List α} {i:Nat} {a:α} (h:l.drop i=a :: r):l[i]?=some a/\l.drop (i+1)=r :=
 ⟨(List.head?_drop (l:=l) (i:=i)).symm.trans (congrArg List.head? h),(List.tail_drop (l:=l) (i:=i)).symm.trans (congrArg List.tail h)⟩
theorem comp_loop {Y:Sys} {A:Around} {fs:List Env} {z₀ z:Z} {I D C i:Nat} {items:List AV} {inv:Store->Prop} {cenv:Env} {ns:Names} {t0 elt0 src0:Expr} {ifs0:List Expr} {t:T} {elt ifs:E} {acc left:List AV} {vars:Vars} {Qf:List AV->Nat->Store->Prop} {sc:Scope} {pos:Pos} {R:Result->Shared->Prop}
  (hA:AsgOk Y.B ns t0 t) (hE:EvOk Y ns elt0 elt) (hI:AllOk Y ns ifs0 ifs) (C₀:CxZ Y.B A fs Y.n z₀) (S:CSt z₀ I D C cenv ns) (V:CInv Y z₀ z I D i items inv cenv ns (fun l a vs k σ=>CW Y elt ifs t inv l a vs k σ Qf) acc left vars)
  (hR:∀ z' acc' vars',Go Y.B none_ z₀ z'->AccAt Y.B z' D acc'->FrZ Y.B cenv ns vars' z'->Qf acc' z'.k z'.σ->R (.ok .next) z'.s) :
  codeAny (model Y.B.prog Y.B.w) A (.compLoop (.ListComp elt0 [⟨t0,src0,ifs0,0⟩] sc pos) 0 (.ref I) (.ref D) cenv) R z.s:=by
 refine comp_turns (fun j s=>∃ z i acc left vars,s=z.s/\left.length=j/\CInv Y z₀ z I D i items inv cenv ns (fun l a vs k σ=>CW Y elt ifs t inv l a vs k σ Qf) acc left vars) (fun j s E hI'=>?_) left.length ⟨z,i,acc,left,vars,rfl,rfl,V⟩
 clear V
 refine eX5 hI' fun z i acc left vars qA3=>eD3 qA3 fun eA3x5 eA3x6 V=>?_;obtain rfl:=eA3x5;obtain rfl:=eA3x6
 have C₁:=C₀.go V.go
 have newer:∀ {own:Addr->Prop} {x:Nat},(∀ a,own a->a=x)->z₀.N<=x->∀ (a:Nat),a < z₀.N->own a->none_ a:=fun ho hx a ha e=>absurd ha (nK.mpr (ho a e▸hx))
 have next:∀ {own:Addr->Prop} {x:Nat} {z z':Z},Go Y.B none_ z₀ z->Go Y.B own z z'->(∀ a,own a->a=x)->z₀.N<=x->Go Y.B none_ z₀ z':=fun g g' ho hx=>g.trans g' (fun uu q=>q) (newer ho hx)
 have ownC:∀ {x:Nat} {vars:Vars},x≠C->∀ a,Own cenv ns vars a->¬ a=x:=fun n a ha e=>n (e.symm.trans (S.own a ha.b))
 cases left with
 | nil =>
  refine eD2 V.w fun hi hq=>?_
  refine next_end C₁.handled V.go.rep V.pI V.it hi (List.drop_eq_nil_iff.mp V.drop) fun z' g e1 e2=>?_
  exact hR z' acc vars (next V.go g (fun uu q=>q) S.sI) (V.hacc.step g S.ID.symm) (V.fr.step g (ownC S.IC)) (e1▸e2▸hq)
 | cons a left =>
  refine eD2 V.w fun hi hw=>?_
  refine eD2 (drop_one V.drop) fun hit hdrop=>?_
  refine next_item C₁.handled V.go.rep V.pI V.it hi hit fun z₁ v g₁ e1 e2 hv K₁ P₁=>?_
  have F₁:=V.fr.step g₁ (ownC S.IC)
  have A₁:=V.hacc.step g₁ S.ID.symm
  have G₁:=next V.go g₁ (fun uu q=>q) S.sI
  refine okE hw fun vars' hT hw=>own_go K₁ (hA A cenv vars vars' z₁ a v _ _ hT C₁.handled g₁.rep F₁ hv fun z₂ g₂ e3 e4 F₂=>?_)
  have A₂:=A₁.step g₂ fun e=>S.DC (S.own _ e)
  have P₂:=P₁.step K₁.lt g₂ fun e=>S.IC (S.own _ e)
  have K₂:=K₁.step P₁ g₂ fun e=>S.IC (S.own _ e)
  have G₂:=next G₁ g₂ S.own S.sC
  rw [<- e3.trans e1,<- e4.trans e2] at hw
  refine hI.tbop .And ⟨A,fs,cenv,vars'⟩ z₂ _ _ f3 hw (fun uu uu uu h=>h) ⟨C₀.go G₂,g₂.rep,F₂⟩ (fun uu=>rfl) _ _ (fun z₃ b g₃ hb=>?_) fun uu uu uu uu uu x=>x.elim
  have A₃:=A₂.step g₃ fun e=>e
  have P₃:=P₂.step K₂.lt g₃ fun e=>e
  have K₃:=K₂.step P₂ g₃ fun e=>e
  have G₃:=G₂.then g₃
  have hlen:acc.length+1+left.length < 1000:=(Nat.succ_add_eq_add_succ acc.length left.length).symm▸V.len
  cases b with
  | false=>exact ⟨left.length,nQ _,z₃,i+1,acc,left,vars',rfl,rfl,G₃,P₃,K₃,hdrop,A₃,F₂.go g₃,hb,Nat.lt_of_succ_lt V.len⟩
  | true =>
   refine hE ⟨A,fs,cenv,vars'⟩ z₃ _ f3 hb ⟨C₀.go G₃,g₃.rep,F₂.go g₃⟩ _ _ (fun z₄ x g₄ q=>q.elim fun c q=>?_) fun uu uu uu uu uu x=>x.elim
   have P₄:=P₃.step K₃.lt g₄ fun e=>e
   have K₄:=K₃.step P₃ g₄ fun e=>e
   refine acc_append g₄.rep (A₃.step g₄ fun e=>e) (nF (nP _ _) V.len) q.1 fun z₅ u g₅ e5 e6 A₅=>?_
   exact ⟨left.length,nQ _,z₅,i+1,acc ++ [c],left,vars',rfl,rfl,next (G₃.then g₄) g₅ (fun uu q=>q) S.sD,P₄.step K₄.lt g₅ S.ID,K₄.step P₄ g₅ S.ID,hdrop,A₅,((F₂.go g₃).go g₄).step g₅ (ownC S.DC),e5▸e6▸q.2,(List.length_append (as:=acc) (bs:=[c])).symm▸hlen⟩
end
section
open PySem.SeqAt PySem.MeetsSeq
theorem folded_plain {e:Expr} {env:Env} (h:isSet e=false) (x:Value):foldedSetIterable e env x=pure x:=by
 cases e <;> first | rfl | exact ff h.symm
section
variable {Y:Sys} {A:Around} {z:Z} {env:Env} {ns:Names} {vars:Vars}
theorem iter_self {B:Base} {I:Addr} {i:Nat} {items:List AV} {inv:Store->Prop} {Q:Value->Shared->Prop} {E:Value->Shared->Prop} (K:ItK B z I i items inv) (h:Q (.ref I) z.s):wpAny (model B.prog B.w) A (pyIter (.ref I)) Q E z.s:=by
 cases K with
 | lst l its k h1 h2 h3=>exact wpAny_pyIter_listiter h3 h
 | tup l its k h1 h2 h3=>exact wpAny_pyIter_tupleiter h3 h
 | row c l h1 _ h2=>exact wpAny_pyIter_listiter h2 h
 | keys c kd ep es d h1 _ _ h2=>exact wpAny_pyIter_keyiter h2 h
 | rng a b c _ h1=>exact wpAny_pyIter_rangeiter h1 h
theorem let_go {B:Base} {L:Addr} {h':Heap} (R:Rep B z) (P:Priv B z L) (hs:Heap.SameBut L z.s.heap h') (tk:Nat):Go B (·=L) z (z.put h' tk) :=
 Go.mine R (Same.of_but hs) (fun b hb uu=>hb▸P) (nG hs.1.symm) tk
theorem comp_core {sc:Scope} {caps:List (Nat×Nat)} {cl:List (Str×Addr)} {src:AV} {v:Value} {fs:List Env} {t0 elt0 src0:Expr} {ifs0:List Expr} {t:T} {elt ifs:E} {Qf:List AV->Nat->Store->Prop} {pos:Pos} {E':Value->Shared->Prop}
  (F0:Facts0 Y.B) (S:ScOk Y.B ns sc caps) (hcl:closeAcc env sc.names []=some cl) (K:Ctx Y ns ⟨A,fs,env,vars⟩ z) (hv:Vr Y.B z src v)
  (hA:AsgOk Y.B sc.names t0 t) (hE:EvOk Y sc.names elt0 elt) (hIf:AllOk Y sc.names ifs0 ifs)
  (h:itemsC z.σ src fun items inv=>few items (CW Y elt ifs t inv items [] (capture vars caps (List.replicate sc.names.length none)) z.k z.σ Qf))
  (RR:Value->Addr->Result->Shared->Prop)
  (hR:∀ z' (D L:Nat) acc' m,Go Y.B none_ z z'->AccAt Y.B z' D acc'->z.N<=D->z.N<=L->D≠L->z'.s.heap.Ns L m->Priv Y.B z' L->Qf acc' z'.k z'.σ->RR (.ref D) L (.ok .next) z'.s) :
  wpAny (model Y.B.prog Y.B.w) A (pyIter v) (fun it s₂=>wpAny (model Y.B.prog Y.B.w) A (newList []) (fun acc s₃=>wpAny (model Y.B.prog Y.B.w) A (newFunctionEnv sc env.globals cl [] env.qual none .none (some env)) (fun cenv s₄ =>
   codeAny (model Y.B.prog Y.B.w) A (.compStart (.ListComp elt0 [⟨t0,src0,ifs0,0⟩] sc pos) 0 it acc { cenv with scope:=relabel sc env }) (RR acc cenv.locals) s₄) E' s₃) E' s₂) E' z.s:=by
 refine iter_ok F0 h K.rep hv fun z₁ I items inv hc g₁ e1 e2 K₁ P₁ hI hinv=>fewE hc fun hl hw=>wpAny_newObj_type ?_ (nV _)
 have gp:∀ {z₁:Z},Rep Y.B z₁->∀ (o:Obj) {h'} (tk:Nat),Heap.SameBut z₁.N (z₁.s.heap.push o) h'->Go Y.B none_ z₁ (z₁.put h' tk)/\z₁.N+1<=h'.objs.size:=fun {z₁} R o {h'} tk q =>
  have e:h'.objs.size=z₁.N+1:=q.1.trans (Heap.size_push _ _)
  ⟨Go.push R (fun b x e=>(q.2 b (nH (Heap.lt_size e))).trans (Heap.get?_push_of_some _ e)) (e▸Nat.le_succ _) tk,nG e.symm⟩
 have o₂:=gp g₁.rep (rowObj "list" #[] 0) (h':=z₁.s.heap.push (rowObj "list" #[] 0)) z₁.s.toks ⟨rfl,fun uu uu=>rfl⟩
 let z₂:=z₁.put (z₁.s.heap.push (rowObj "list" #[] 0)) z₁.s.toks
 have g₂:Go Y.B none_ z₁ z₂:=o₂.1
 refine wpAny_newFunctionEnv (fun y hy e=>(List.mem_iff_getElem?.mp hy).elim fun i q=>S.nocell i y.1 (q.trans (congrArg some (Prod.ext rfl e)))) (fun y hy=>nomatch hy) (fun h₁ q1 q2=>?_) S.kind
 have o₃:=gp g₂.rep _ (z₁.s.toks+([]:List (Str×Value)).length) q2
 let z₃:=z₂.put h₁ (z₁.s.toks+([]:List (Str×Value)).length)
 have g₃:Go Y.B none_ z₂ z₃:=o₃.1
 have gAll:=(g₁.then g₂).then g₃
 have D₃:AccAt Y.B z₃ z₁.N []:=AccAt.step (z:=z₂) ⟨(Priv.new g₁.rep (nB _)).put _ _,#[],0,Heap.get?_push_size _ rfl,trivial⟩ g₃ fun q=>q
 have P₂:=P₁.step K₁.lt g₂ fun q=>q
 have K₂:=K₁.step P₁ g₂ fun q=>q
 have PL:Priv Y.B z₃ z₂.N:=(Priv.new g₂.rep (nB _)).put _ _
 have hLf:env.frame≠some z₂.N:=fun e=>nT _ (nD ((K.fr.go g₁).lcls z₂.N e).1 o₂.1.size)
 have hF:=comp_frame (K.fr.go gAll) S hcl (C:=z₂.N) q1 PL o₃.2 hLf
 have own:∀ b,OwnB (compEnvC sc cl z₂.N env) sc.names b->b=z₂.N:=fun b hb=>hb.elim id fun q=>q.elim fun i q=>q.elim fun x q=>absurd q.1 (S.nocell i x)
 have St:CSt z I z₁.N z₂.N (compEnvC sc cl z₂.N env) sc.names:=⟨own,hI,g₁.size,nA g₁.size o₂.1.size,nH K₁.lt,nH K₂.lt,nH o₂.2⟩
 have loop:=comp_loop (src0:=src0) (pos:=pos) (sc:=sc) (R:=RR (.ref z₁.N) z₂.N) hA hE hIf K.cx St ⟨gAll,P₂.step K₂.lt g₃ fun q=>q,K₂.step P₂ g₃ fun q=>q,List.drop_zero,D₃,hF,e1▸e2▸hw,(Nat.zero_add items.length).symm▸hl⟩
  fun z' acc' vars' gz ha F' hq=>F'.loc.elim fun m hm=>hR z' _ _ acc' m gz ha g₁.size St.sC St.DC hm.1 (F'.out _ (.inl rfl)).1 hq
 exact codeAny_compStart_list loop (iter_self (z:=z₃) (K₂.step P₂ g₃ fun q=>q) loop)
theorem ScOk.locs {B:Base} {sc:Scope} {caps:List (Nat×Nat)} (S:ScOk B ns sc caps):∀ x∈sc.names,x.2=NameKind.local->sc.names.lookup x.1=some NameKind.local:=fun x hx e =>
 (List.mem_iff_getElem?.mp hx).elim fun i q=>lookup_at S.nodup (q.trans (congrArg some (Prod.ext rfl e)))
theorem ev_comp {m:Bool} {sc:Scope} {caps:List (Nat×Nat)} {t0 elt0 src0:Expr} {ifs0:List Expr} {t:T} {elt src ifs:E} {pos:Pos} (F0:Facts0 Y.B) (S:ScOk Y.B ns sc caps) (hset:isSet src0=false)
  (hsrc:EvOk Y ns src0 src) (hA:AsgOk Y.B sc.names t0 t) (hE:EvOk Y sc.names elt0 elt) (hI:AllOk Y sc.names ifs0 ifs) :
  EvOk Y ns (.ListComp elt0 [⟨t0,src0,ifs0,0⟩] sc pos) (.comp m elt t src ifs sc.names.length caps):=fun c z Q X hw K=>by
 refine eX1 (comp_close K.fr S) fun cl hcl=>?_
 rw [eval_ListComp]
 intro Qc E hQ hX
 refine wpAny_comprehension_free (use:=none) rfl (folded_plain hset) (closureFor_acc hcl) S.kind S.locs (hsrc c z _ X hw K _ E (fun z₁ v g₁ q=>q.elim fun a q=>?_) hX)
 refine comp_core F0 S hcl (K.go g₁) q.1 hA hE hI q.2 (fun acc L=>compPost (model Y.B.prog Y.B.w) c.A E none Qc acc L) fun z' D L acc' m g hacc sD sL hDL hm hL hq=>⟨m,hm,fun h' hs=>?_⟩
 have g₂:=let_go g.rep hL hs z'.s.toks
 have no:∀ {x:Nat},z₁.N<=x->∀ a:Nat,a < z₁.N->a=x->none_ a:=fun h a ha e=>absurd ha (nK.mpr (e▸h))
 refine acc_out g₂.rep (hacc.step g₂ hDL) hq fun z₃ b g₃ e3 hb hq=>?_
 have:=hQ z₃ (.ref D) (g₁.then ((g.trans g₂ (fun uu q=>q) (no sL)).trans g₃ (fun uu q=>q) (no sD))) ⟨b,hb,hq⟩
 rw [e3] at this
 exact this
end
end
section
open PySem.SeqAt PySem.MeetsSeq
theorem dict_mapFields (o:Obj) (f):(o.mapFields f).dict=o.dict:=by
 obtain ⟨c,d,dt,s⟩:=o
 cases dt <;> rfl
theorem set_at {vs:Array Value} {i:Nat} {x:Value} (h:i < vs.size):(vs.setIfInBounds i x)[i]?=some x:=by simp [h]
theorem lt_at {vs:Array Value} {i:Nat} {x:Value} (h:vs[i]?=some x):i < vs.size:=(Array.getElem?_eq_some_iff.mp h).1
section
variable {B:Base} {A:Around} {z:Z} {env:Env} {outer:List Env} {L e:Addr} {N:Nat} {fl:Value->Prop} {t:AV} {Q:Unit->Shared->Prop} {E:Value->Shared->Prop}
theorem fo_dict {h:Heap} {L:Addr} {o:Obj} (f:FO h L) (e:h.get? L=some o):¬ NF o/\∀ vs,o.data≠.fields vs:=f.elim fun o' q=>by
 obtain rfl:=oJ (e.symm.trans q.1)
 exact ⟨q.2,fun vs q'=>q.2 fun c=>c.2.elim fun uu c=>c.elim fun uu c=>nomatch q'.symm.trans c⟩
theorem Frames.fun:∀ {fs:List Env},Frames B fs z->z.s.heap.FunFrames z.g fs
 | [],_=>trivial
 | env :: r,F=>(F env (.head _)).2.elim fun L q=>q.2.2.1.elim fun o r'=>⟨(F env (.head _)).1▸nofun,⟨L,o,q.1,q.2.1.g,r'.1,(fo_dict q.2.2.1 r'.1).2⟩,Frames.fun fun e he=>F e (.tail _ he)⟩
theorem Frames.place {fs:List Env} {b:Addr} (F:Frames B fs z) (hb:b∈fs.filterMap (·.frame)):FO z.s.heap b/\B.P.n0<=b :=
 (List.mem_filterMap.mp hb).elim fun env q=>(F env q.1).2.elim fun L r=>by obtain rfl:=oJ (q.2.symm.trans r.1);exact r.2.2
theorem entry_ok {oe:Obj} {vs:Array Value} {head:Value} {hadNext:Bool} (hfr:A.frames=some (env :: outer)) (hl:Frames B (env :: outer) z) (hf:env.frame=some L) (he:z.s.heap.get? e=some oe) (hd:oe.data=.fields vs) (hsz:1 < vs.size)
  (h:∀ h' oe' (T:Nat) oT ts,z.N<=T->T≠e->h'.get? e=some oe'->oe'.cls=oe.cls->oe'.dict=oe.dict->oe'.data=.fields (vs.setIfInBounds 1 (.ref T))->h'.get? T=some oT->oT.data=.fields ts->ts[3]?=some (rawInt L)->Same B.P.n0 (·=e) z.s.heap h'->z.N<=h'.objs.size->Q () { z.s with heap:=h' }) :
  wpAny (model B.prog B.w) A (do let a <- frameOf env;let pl <- entryPlaceOf L hadNext;let b <- EntryCells.newEntry head a .none (rawInt L) .none pl;setField (.ref e) 1 b) Q E z.s:=by
 have hene:e ∉ (env :: outer).filterMap (·.frame):=fun hm=>(fo_dict (hl.place hm).1 he).2 vs hd
 refine nE1 (wpAny_frameOf_fun hfr hl.fun hf fun h₁ hs₁=>?_)
 refine nE1 (wpAny_entryPlaceOf fun pl hpl=>?_)
 skip
 refine nE1 (wpAny_newObj_type ?_ (hpl.sizeOk5 _ _ _ _ _))
 have he₁:h₁.get? e=some oe:=(hs₁.2.1 e hene).trans he
 have hTe:h₁.objs.size≠e:=Nat.ne_of_gt (Heap.lt_size he₁)
 generalize ho:({ cls:=.type "traceback",dict:=none,data:=.fields ([head,.ref L,.none,rawInt L,.none] ++ (if pl.isEmpty then List.replicate 6 Value.none else pl)).toArray }:Obj)=oT
 have hdT:oT.data=.fields ([head,.ref L,.none,rawInt L,.none] ++ (if pl.isEmpty then List.replicate 6 Value.none else pl)).toArray:=ho▸rfl
 have he₂:=Heap.get?_push_of_some (h:=h₁) oT he₁
 have hd₃:=Obj.data_mapFields hd (·.setIfInBounds 1 (Value.ref h₁.objs.size))
 have he₃:=Heap.get?_update_self (Obj.mapFields (·.setIfInBounds 1 (Value.ref h₁.objs.size))) he₂ (Obj.isFreed_of_fields hd₃)
 have hT₃:=(Heap.get?_update_other (h₁.push oT) (Obj.mapFields (·.setIfInBounds 1 (Value.ref h₁.objs.size))) (Ne.symm hTe)).trans (Heap.get?_push_size h₁ (Obj.isFreed_of_fields hdT))
 refine wpAny_setField he₂ hd hsz (h _ _ h₁.objs.size _ _ (nG hs₁.1.symm) hTe he₃ (Obj.cls_mapFields _ _) (dict_mapFields _ _) hd₃ hT₃ hdT ?_ ?_ ?_)
 ·rw [List.getElem?_toArray];rfl
 ·have x1:Same B.P.n0 (·=e) z.s.heap h₁:=fun b o eb uu=>by
   by_cases q:b∈(env :: outer).filterMap (·.frame)
   ·exact .inr ⟨(hl.place q).2,(fo_dict (hl.place q).1 eb).1,hs₁.2.2 b o eb⟩
   ·exact .inl ((hs₁.2.1 b q).trans eb)
  exact x1.trans (R':=(·=e)) (fun b o eb nb=>.inl ((Heap.get?_update_other _ _ (Ne.symm nb)).trans (Heap.get?_push_of_some _ eb))) (fun uu q=>q) fun b uu q=>q
 ·rw [Heap.size_after_update,Heap.size_push]
  exact Nat.le_succ_of_le (nG hs₁.1.symm)
theorem note_ok (hfr:A.frames=some (env :: outer)) (hl:Frames B (env :: outer) z) (hf:env.frame=some L) (R:Rep B z) (X:ExcF B fl N z t e)
  (hfl:∀ f,fl f->f=.none∨f=rawInt L) (hN:N<=z.N) (hQ:∀ z',Go B (N<=·) z z'->z'.k=z.k->z'.σ=z.σ->ExcF B (·=rawInt L) N z' t e->(∀ vs oe,z'.s.heap.get? e=some oe->oe.data=.fields vs->vs[1]?≠some .none)->Q () z'.s):wpAny (model B.prog B.w) A (noteFrame (.ref e) env) Q E z.s:=by
 refine eX5 X.is fun oe vs d m v qA1=>eD8 qA1 fun h1 h2 h3 h4 h5 h6 h7 h8=>?_
 have fin:∀ (own:Addr->Prop),(∀ a,own a->Priv B z a/\N<=a)->∀ h' oe' (T:Nat) oT ts,1 < vs.size->z.N<=T->T≠e->h'.get? e=some oe'->oe'.cls=oe.cls->oe'.dict=oe.dict->oe'.data=.fields (vs.setIfInBounds 1 (.ref T))->h'.get? T=some oT->oT.data=.fields ts->ts[3]?=some (rawInt L) ->
   Same B.P.n0 own z.s.heap h'->z.N<=h'.objs.size->Q () { z.s with heap:=h' }:=fun own ho h' oe' T oT ts p0 p1 p2 p3 p4 p5 p6 p7 p8 p9 p10 p11 =>
  hQ (z.put h' z.s.toks) ((Go.mine R p10 (fun b hb uu=>(ho b hb).1) p11 z.s.toks).mono fun a ha=>(ho a ha).2) rfl rfl ⟨⟨oe',_,d,m,v,p3,p4.trans h2,p6,p5.trans h4,h5,h6,h7,.inr ⟨T,oT,ts,_,set_at p0,p2,nA hN p1,(Priv.new R p1).put _ _,p7,p8,p9,rfl⟩⟩,X.out.put _ _,X.new⟩ fun vs' o' q1 q2 q3=>by
   obtain rfl:=oJ (p3.symm.trans q1)
   cases p6.symm.trans q2
   exact nomatch (set_at p0).symm.trans q3
 unfold noteFrame
 rw [hf]
 rcases h8 with h8 | ⟨T,oT,ts,f,q1,q2,q3,q4,q6,q7,q8,q9⟩
 ·refine nE1 (wpAny_field h1 h3 h8 ?_)
  rw [if_neg (by decide)]
  exact entry_ok hfr hl hf h1 h3 (lt_at h8) fun h' oe' T oT ts p1 p2 p3 p4 p5 p6 p7 p8 p9 p10 p11=>fin (·=e) (fun a ha=>ha▸⟨X.out,X.new⟩) h' oe' T oT ts (lt_at h8) p1 p2 p3 p4 p5 p6 p7 p8 p9 p10 p11
 ·refine nE1 (wpAny_field h1 h3 q1 ?_)
  rw [if_pos (show (Value.ref T != Value.none)=true from rfl)]
  refine nE1 (wpAny_field q6 q7 q8 ?_)
  rcases hfl f q9 with rfl | rfl
  ·rw [if_neg (show ¬ ((Value.none==rawInt L)=true) from nofun)]
   refine nE1 (wpAny_setField q6 q7 (lt_at q8) ?_)
   have sb:=Heap.SameBut.update z.s.heap T (Obj.mapFields (·.setIfInBounds 3 Value.none))
   have gT:Go B (·=T) z (z.put _ z.s.toks):=Go.mine R (Same.of_but sb) (fun b hb uu=>hb▸q4) (nG sb.1.symm) z.s.toks
   refine entry_ok (z:=z.put _ z.s.toks) hfr (hl.step gT fun env he L hf' ha=>(hl env he).2.elim fun L' r=>?_) hf ((sb.2 e (Ne.symm q2)).trans h1) h3 (lt_at q1) fun h' oe' T' oT' ts' p1 p2 p3 p4 p5 p6 p7 p8 p9 p10 p11 =>
    fin (fun a=>a=e∨a=T) (fun a ha=>ha.elim (fun q=>q▸⟨X.out,X.new⟩) fun q=>q▸⟨q4,q3⟩) h' oe' T' oT' ts' (lt_at q1) (nA (nG sb.1.symm) p1) p2 p3 p4 p5 p6 p7 p8 p9 ((Same.of_but sb).trans p10 (fun uu q=>.inr q) fun uu uu q=>.inl q) (nA (nG sb.1.symm) p11)
   cases hf'.symm.trans r.1
   exact (fo_dict r.2.2.1 (ha▸q6)).2 _ q7
  ·rw [if_pos (show (rawInt L==rawInt L)=true from beq_self_eq_true _)]
   exact nF1 (hQ z (Go.refl R) rfl rfl ⟨⟨oe,vs,d,m,v,h1,h2,h3,h4,h5,h6,h7,.inr ⟨T,oT,ts,_,q1,q2,q3,q4,q6,q7,q8,rfl⟩⟩,X.out,X.new⟩ fun vs' o' q1' q2' q3'=>by
    cases h1.symm.trans q1'
    cases h3.symm.trans q2'
    exact nomatch q1.symm.trans q3')
theorem flight_ok {fr:Option Addr} (R:Rep B z) (X:ExcF B fl N z t e) (hQ:∀ z',Go B (N<=·) z z'->z'.k=z.k->z'.σ=z.σ->ExcF B (·=fr.elim Value.none fun f=>rawInt f) N z' t e->Q () z'.s):wpAny (model B.prog B.w) A (setFlight (.ref e) fr) Q E z.s:=by
 refine eX5 X.is fun oe vs d m v qA2=>eD8 qA2 fun h1 h2 h3 h4 h5 h6 h7 h8=>?_
 skip
 rcases h8 with h8 | ⟨T,oT,ts,f,q1,q2,q3,q4,q6,q7,q8,q9⟩
 ·refine nE1 (wpAny_field h1 h3 h8 ?_)
  rw [if_neg (by decide)]
  exact nF1 (hQ z (Go.refl R) rfl rfl ⟨⟨oe,vs,d,m,v,h1,h2,h3,h4,h5,h6,h7,.inl h8⟩,X.out,X.new⟩)
 ·refine nE1 (wpAny_field h1 h3 q1 ?_)
  rw [if_pos (show (Value.ref T != Value.none)=true from rfl)]
  refine wpAny_setField q6 q7 (lt_at q8) ?_
  have sb:=Heap.SameBut.update z.s.heap T (Obj.mapFields (·.setIfInBounds 3 (fr.elim Value.none fun f=>rawInt f)))
  have hd:=Obj.data_mapFields q7 (·.setIfInBounds 3 (fr.elim Value.none fun f=>rawInt f))
  exact hQ (z.put _ z.s.toks) ((Go.mine R (Same.of_but sb) (fun b hb uu=>hb▸q4) (nG sb.1.symm) z.s.toks).mono fun a ha=>ha▸q3) rfl rfl ⟨⟨oe,vs,d,m,v,(sb.2 e (Ne.symm q2)).trans h1,h2,h3,h4,h5,h6,h7,.inr ⟨T,_,_,_,q1,q2,q3,q4.put _ _,Heap.get?_update_self _ q6 (Obj.isFreed_of_fields hd),hd,set_at (lt_at q8),rfl⟩⟩,X.out.put _ _,X.new⟩
theorem leave_ok (hfr:A.frames=some (env :: outer)) (hl:Frames B (env :: outer) z) (hf:env.frame=some L) (R:Rep B z) (X:ExcF B fl N z t e)
  (hfl:∀ f,fl f->f=.none∨f=rawInt L) (hN:N<=z.N) (hQ:∀ z',Go B (N<=·) z z'->z'.k=z.k->z'.σ=z.σ->ExcR B N z' t e->Q () z'.s):wpAny (model B.prog B.w) A (leaving env (.ref e)) Q E z.s:=by
 skip
 exact nE1 (note_ok hfr hl hf R X hfl hN fun z₁ g₁ e1 e2 X₁ uu=>flight_ok g₁.rep X₁ fun z₂ g₂ e3 e4 X₂=>hQ z₂ (g₁.then g₂) (e3.trans e1) (e4.trans e2) X₂)
theorem cameBack_ok (hf:env.frame=some L) (R:Rep B z) (X:ExcF B (·=rawInt L) N z t e) (hX:∀ vs oe,z.s.heap.get? e=some oe->oe.data=.fields vs->vs[1]?≠some .none)
  (hQ:∀ z',Go B (N<=·) z z'->z'.k=z.k->z'.σ=z.σ->ExcF B (·=rawInt L) N z' t e->E (.ref e) z'.s):cameBackBy (model B.prog B.w) A env E (.ref e) z.s:=by
 refine eX5 X.is fun oe vs d m v qA3=>eD8 qA3 fun h1 h2 h3 h4 h5 h6 h7 h8=>?_
 skip
 rcases h8 with h8 | ⟨T,oT,ts,f,q1,q⟩
 ·exact absurd h8 (hX vs oe h1 h3)
 ·refine nE1 (wpAny_field h1 h3 q1 ?_)
  rw [if_neg (show ¬ ((Value.ref T==Value.none)=true) from nofun)]
  exact flight_ok R X fun z' g e1 e2 X'=>hQ z' g e1 e2 (by rw [hf] at X';exact X')
end
end
section
open PySem.SeqAt PySem.MeetsSeq
section
variable {P:Places} {g:Heap} {ρ:Rho}
theorem putL_vrf {x:Nat} {a:AV} {v:Value} {hsh:Int} {t:Tok} (hx:x < 81) (hv:VR P g ρ a v):∀ {fs:List (Nat×AV)} {es:List DictEntry},VRf P g ρ fs es->VRf P g ρ (fput fs x a) (putL (nm x) hsh (.str (nm x) t) v es)
 | [],[],_=>⟨hx,⟨t,rfl⟩,hv,trivial⟩
 | [],_ :: _,h=>h.elim
 | _ :: _,[],h=>h.elim
 | f :: fs,e :: es,h=>h.2.1.elim fun t' he=>by
  unfold fput putL
  rw [isStr_nm he h.1 hx]
  cases q:Nat.beq f.1 x with
  | true=>exact ⟨h.1,⟨t',he⟩,hv,h.2.2.2⟩
  | false=>exact ⟨h.1,⟨t',he⟩,h.2.2.1,putL_vrf hx hv h.2.2.2⟩
theorem vrf_length:∀ {fs:List (Nat×AV)} {es:List DictEntry},VRf P g ρ fs es->es.length=fs.length
 | [],[],_=>rfl
 | [],_ :: _,h=>h.elim
 | _ :: _,[],h=>h.elim
 | _ :: _,_ :: _,h=>congrArg (·+1) (vrf_length h.2.2.2)
theorem putL_length (name:Str) (hsh:Int) (key v:Value):∀ es:List DictEntry,(putL name hsh key v es).length<=es.length+1
 | []=>nB _
 | e :: es=>by
  unfold putL
  cases e.key.isStr name with
  | true=>exact Nat.le_succ _
  | false=>exact Nat.succ_le_succ (putL_length name hsh key v es)
theorem vrs_set {a:AV} {v:Value} (hv:VR P g ρ a v):∀ {as:List AV} {vs:List Value},VRs P g ρ as vs->∀ (j:Nat),VRs P g ρ (as.set j a) (vs.set j v)
 | [],[],h,_=>h
 | [],_ :: _,h,_=>h.elim
 | _ :: _,[],h,_=>h.elim
 | _ :: _,_ :: _,h,0=>⟨hv,h.2⟩
 | _ :: _,_ :: _,h,j+1=>⟨h.1,vrs_set hv h.2 j⟩
end
section
variable {B:Base} {A:Around} {z:Z} {Q:Store->Prop} {Qc:Unit->Shared->Prop} {E:Value->Shared->Prop}
theorem set_attr_ok {a:AV} {x:Nat} {v:AV} {u va:Value} (CF:ClsFacts B) (hx:x < 81) (h:storeAttr a x v z.σ Q) (R:Rep B z) (ha:Vr B z a u) (hv:Vr B z v va)
  (hQ:∀ z',Go B none_ z z'->z'.k=z.k->Q z'.σ->Qc () z'.s):wpAny (model B.prog B.w) A (setAttr u (nm x) va) Qc E z.s:=by
 refine cellA (C:=fun a=>Vr B z a u->wpAny (model B.prog B.w) A (setAttr u (nm x) va) Qc E z.s) h (fun i h ha=>cellE h (fun uu uu h=>h.elim) (fun uu uu uu uu h=>h.elim) fun c fs hσ h=>?_) ha
 cases hp:propOf c x with
 | some=>rw [hp] at h;exact h.elim
 | none =>
  rw [hp] at h
  refine only h fun hf h=>fewE h fun hl h=>?_
  obtain ⟨⟨y,d'⟩,hρ,rfl⟩:=ha
  obtain ⟨d,es,k,e0,e1,e2,hne,e3⟩:=R.cell i _ _ hσ hρ
  obtain ⟨q1,q2,attr,q3,q4⟩:=CF.own c x hf
  obtain ⟨s1,s2,s3⟩:=CF.set c x hf
  obtain ⟨cd,hc,hd'⟩:=any_some q2
  have X:=CF.here R
  have I:InstAt z.s.heap y (instObj (B.P.ca c) d) (B.P.ca c) (some (PySem.W.dictOf es k)):=⟨e1,rfl,rfl,e2⟩
  refine set_plain X I s1 (osa_open (s:={ z.s with toks:=z.s.toks+1 }) X I s2 s3 fun b=>?_)
  refine nE1 (nF1 (nE1 (nE1 (wpAny_loadPart (s:={ z.s with toks:=z.s.toks+1 }) e1 (nE1 ((looks_clsIn X hc).here (s:={ z.s with toks:=z.s.toks+1 }) ?_))))))
  rw [hd']
  refine nF1 (a:=some d) (nE1 (nF1 (nE1 ?_)))
  skip
  refine nE1 (nE1 (wpAny_askSetting (nF1 (nE1 (wpAny_mkText (nE1 (wpAny_loadPart (s:={ z.s with toks:=z.s.toks+1+1 }) e2 ?_)))))))
  dsimp only
  rw [aRefKeyMayBeTheName_at,List.any_toArray,List.any_toArray,vrf_norefs e3,Bool.and_false]
  refine wpAny_updatePart (s:={ z.s with toks:=z.s.toks+1+1 }) e2 ?_
  let hsh:=PyData.keyHash B.w.params (nm x)
  have eo:Obj.putName (nm x) hsh (.str (nm x) (z.s.toks+1)) va (PySem.W.dictOf es k)=_:=putName_dict ..
  have hd2:=Heap.get?_update_self (Obj.putName (nm x) hsh (.str (nm x) (z.s.toks+1)) va) e2 (by rw [eo];rfl)
  rw [eo] at hd2
  have hsm:=Heap.SameBut.update z.s.heap d (Obj.putName (nm x) hsh (.str (nm x) (z.s.toks+1)) va)
  have hlen:(putL (nm x) hsh (.str (nm x) (z.s.toks+1)) va es).length<=sizeLine:=nA (putL_length ..) (nA (Nat.succ_le_of_lt ((vrf_length e3).symm▸hl:es.length < 1000)) (by decide))
  refine nE1 (wpAny_lookBehind hd2 (pastItsLine_dict (Nat.le_succ_of_le hlen)) (nF1 ?_))
  exact hQ ((z.put _ (z.s.toks+1+1)).sg _) (Go.turned (c:=.inst c (fput fs x v)) R hσ hρ (fun b hb=>hsm.2 b fun q=>hb (.inr (q▸e0))) hsm.1 (z.s.toks+1+1) ⟨d,_,_,e0,(hsm.2 y hne).trans e1,hd2,hne,putL_vrf hx hv e3⟩) rfl h
theorem setItem_row {s:Shared} {l:Addr} {items:Array Value} {n:Nat} {j:Nat} {k:Int} {t:Tok} {v:Value} (e:s.heap.get? l=some (rowObj "list" items n)) (hk:k=(j:Int)) (hn:j < items.size) (hfit:Builtin.List.listFitsIndex k=true)
  (hQ:Qc () { s with heap:=s.heap.update l (Obj.mapSeq (·.setIfInBounds j v)) }) :
  wpAny (model B.prog B.w) A (setItem (.ref l) (.int k t) v) Qc E s:=by
 have hl:s.heap.IsList l items:=⟨_,e,rfl,n,rfl⟩
 skip
 refine nG1 (nE1 (wpAny_sequenceKey hl.typeIs (by decide) ?_))
 refine nE1 (wpAny_callSpecial?_slot (name:=Str.ofString "__setitem__") hl.typeIs slot_list_setitem
  (wpAny_call_entry slot_list_setitem hl.typeIs entry_list_setitem ?_ (args_list_setitem _ _ _)))
 show wpAny _ _ (Builtin.List.listSubscript? (.int k t) >>= _) _ _ s
 refine nE1 (wpAny_listSubscript_int hfit ?_)
 subst hk
 skip
 refine nE1 (nE1 (wpAny_seqItemAt e rfl (nF1 ?_)))
 rw [(Array.getElem?_eq_getElem hn:items[j]?=some items[j])]
 skip
 refine nE1 (wpAny_setSeqItemAt e rfl ?_)
 first
  | exact nE1 (nF1 (nF1 ⟨.none,rfl,nF1 hQ⟩))
  | exact nF1 ⟨.none,rfl,nF1 hQ⟩
theorem set_item_ok {a i v:AV} {u ui va:Value} (hu:A.units+20 < cLine) (h:storeSub a i v z.σ Q) (R:Rep B z) (ha:Vr B z a u) (hi:Vr B z i ui) (hv:Vr B z v va)
  (hQ:∀ z',Go B none_ z z'->z'.k=z.k->Q z'.σ->Qc () z'.s):wpAny (model B.prog B.w) A (setItem u ui va) Qc E z.s:=by
 refine cellA (C:=fun a=>Vr B z a u->wpAny (model B.prog B.w) A (setItem u ui va) Qc E z.s) h (fun c h ha=>cellE h (fun as hσ h=>?_) (fun kd es ep hσ h=>?_) fun uu uu uu h=>h.elim) ha
 ·obtain ⟨⟨l,_⟩,hρ,rfl⟩:=ha
  obtain ⟨rfl,items,k,e,r⟩:=R.cell c _ _ hσ hρ
  refine fewE h fun hl h=>vInt (C:=fun ui=>wpAny (model B.prog B.w) A (setItem (.ref l) ui va) Qc E z.s) h hi fun j t h=>?_
  obtain ⟨h0,h1,h⟩:=h
  obtain ⟨j,rfl⟩:=Int.eq_ofNat_of_zero_le h0
  have hj:j < as.length:=Int.ofNat_lt.mp h1
  have q2:=Heap.SameBut.update z.s.heap l (Obj.mapSeq (·.setIfInBounds j va))
  refine setItem_row e rfl (row_len r▸hj) (fitsIndex_of (Int.natCast_nonneg j) (Int.lt_trans (Int.ofNat_lt.mpr (Nat.lt_trans hj hl)) (by decide))) ?_
  exact hQ ((z.put _ z.s.toks).sg _) (Go.turned (c:=.list (as.set j v)) R hσ hρ (fun b hb=>q2.2 b fun q=>hb (.inl q)) q2.1 z.s.toks ⟨rfl,_,_,IsL.update (n:=k) e (·.setIfInBounds j va),(Array.toList_setIfInBounds (xs:=items) (i:=j) (x:=va)).symm▸vrs_set hv r j⟩) rfl h
 ·obtain ⟨p,hρ,rfl⟩:=ha
  refine only h fun hk h=>fewE h fun hl h=>dictK (C:=fun p ui=>z.ρ c=some p->wpAny (model B.prog B.w) A (setItem (.ref p.1) ui va) Qc E z.s) R (R.cell c _ p hσ hρ) (nE hk) hi (fun l kvs ku h3 hks hu' hku D U hρ=>?_) (fun l kvs ku y h3 hu' hy hka D U hρ=>?_) hρ
  ·refine wpAny_setItem_pairs (hsz:=line_ok (du_length U▸hl)) hku D fun h' q1 q2=>?_
   obtain ⟨ep',q5⟩:=dictU_cell (z:=z) (t:=z.s.toks+1) h3 (kinds_put (a:=v) (nE hk) hks) q1 (du_put hu' hv U (by obtain ⟨_,_,_,_,_,_,_,hn⟩:=D;exact hn.2))
   exact hQ ((z.put h' (z.s.toks+1)).sg _) (Go.turned R hσ hρ (fun b hb=>q2.2 b fun q=>hb (.inl q)) q2.1 _ q5) rfl (h ep')
  ·subst h3
   refine wpAny_setItem_heap (hsz:=line_ok (dp_length U▸hl)) (tupleKind_room_in1 (nF (nM (by decide:1<=20) _) hu)) hka D fun h' q1 q2=>?_
   obtain ⟨ep',q5⟩:=dictH_cell (z:=z) (t:=z.s.toks+(tupleKind (uKind B.prog B.w)).draws ku) q1 (dp_put hu' hy hv U (by obtain ⟨_,_,_,_,_,_,_,_,hn⟩:=D;exact hn))
   exact hQ ((z.put h' (z.s.toks+(tupleKind (uKind B.prog B.w)).draws ku)).sg _) (Go.turned R hσ hρ (fun b hb=>q2.2 b fun q=>hb (.inl q)) q2.1 _ q5) rfl (h ep')
end
end
section
open PySem.SeqAt PySem.MeetsSeq
structure Bl where
 A:Around
 env:Env
 outer:List Env
structure SCx (Y:Sys) (b:Bl) (z:Z):Prop where
 cx:CxZ Y.B b.A (b.env :: b.outer) Y.n z
 fr:b.env.frame=some b.env.locals
 ap:∀ e∈b.outer,e.frame≠some b.env.locals
structure SCt (Y:Sys) (ns:Names) (b:Bl) (vars:Vars) (z:Z):Prop where
 x:SCx Y b z
 rep:Rep Y.B z
 fr:FrZ Y.B b.env ns vars z
abbrev Bl.ar (b:Bl) (vars:Vars):Ar:=⟨b.A,b.env :: b.outer,b.env,vars⟩
theorem SCt.ex {Y:Sys} {ns:Names} {b:Bl} {vars:Vars} {z:Z} (C:SCt Y ns b vars z):Ctx Y ns (b.ar vars) z:=⟨C.x.cx,C.rep,C.fr⟩
noncomputable def flOf (env:Env) (f:Value):Prop:=f=.none∨f=rawInt env.locals
noncomputable def SRuns (Y:Sys) {α:Type} (ns:Names) (b:Bl) (z:Z) (t:Sem α) (N:Vars->Z->α->Prop) (X:PostV):Prop :=
 ∀ (Qc:α->Shared->Prop) (E:Value->Shared->Prop),(∀ z' vars' a,Go Y.B (OwnB b.env ns) z z'->SCt Y ns b vars' z'->N vars' z' a->Qc a z'.s) ->
  (∀ z' a e,Go Y.B (OwnB b.env ns) z z'->SCx Y b z'->ExcF Y.B (flOf b.env) z.N z' a e->X a z'.k z'.σ->E (.ref e) z'.s)->wpAny (model Y.B.prog Y.B.w) b.A t Qc E z.s
noncomputable def FEnd (B:Base) (N:PostN) (R:PostV) (vars:Vars) (z:Z) (f:Flow):Prop:=f.casesOn (N vars z.k z.σ) False False fun v=>VEnd B R z v
noncomputable def StOk (Y:Sys) (ns:Names) (s0:Stmt) (st:S):Prop:=∀ (b:Bl) (vars:Vars) (z:Z) (N:PostN) (R X:PostV),exW Y.cw st vars z.k z.σ N R X->SCt Y ns b vars z->SRuns Y ns b z (exec s0 b.env) (FEnd Y.B N R) X
noncomputable def StsOk (Y:Sys) (ns:Names) (ss0:List Stmt) (ss:S):Prop:=∀ (b:Bl) (vars:Vars) (z:Z) (N:PostN) (R X:PostV),exW Y.cw ss vars z.k z.σ N R X->SCt Y ns b vars z->SRuns Y ns b z (execs ss0 b.env) (FEnd Y.B N R) X
abbrev NEnd (N:PostN) (vars:Vars) (z:Z) (_:Unit):Prop:=N vars z.k z.σ
noncomputable def GOk (Y:Sys) (ns:Names) (g0:Expr) (g:G):Prop:=∀ (b:Bl) (vars:Vars) (z:Z) (a:AV) (v:Value) (N:PostN) (X:PostV),gW Y.cw g a vars z.k z.σ N X->SCt Y ns b vars z->Vr Y.B z a v->SRuns Y ns b z (assign g0 b.env v) (NEnd N) X
noncomputable def GsOk (Y:Sys) (ns:Names) (gs0:List Expr) (gs:G):Prop:=∀ (b:Bl) (vars:Vars) (z:Z) (as:List AV) (vs:List Value) (N:PostN) (X:PostV),gW Y.cw gs (.tup as) vars z.k z.σ N X->SCt Y ns b vars z->Vrs Y.B z as vs ->
 SRuns Y ns b z (assignInOrder (gs0.map fun e=>assign e b.env) vs) (NEnd N) X
theorem ownB_place {B:Base} {z:Z} {env:Env} {ns:Names} {vars:Vars} (R:Rep B z) (F:FrZ B env ns vars z) {a:Addr} (h:OwnB env ns a):a=env.locals∨∃ o,z.s.heap.get? a=some o/\NF o:=by
 refine h.imp id fun h=>h.elim fun i h=>h.elim fun x h=>?_
 have nf:∀ {o:Obj} {v},o.data=.cell v->NF o:=fun h q=>q.2.elim fun uu q=>q.elim fun uu q=>nomatch h.symm.trans q
 have hl:i < vars.length:=F.len▸(List.getElem?_eq_some_iff.mp h.1).1
 cases hv:vars[i] with
 | none =>
  obtain ⟨c,w1,o,w2,w3⟩:=F.opn i x h.1 ((nA1 hl).trans (congrArg some hv))
  obtain rfl:=oJ (h.2.symm.trans w1)
  exact ⟨o,w2,nf w3⟩
 | some b =>
  refine eX2 (F.cel i x .cell b h.1 (.inl rfl) ((nA1 hl).trans (congrArg some hv))) fun c v qA1=>eD3 qA1 fun w1 qA1x3 uu=>?_;obtain ⟨o,w2,w3⟩:=qA1x3
  obtain rfl:=oJ (h.2.symm.trans w1)
  exact ⟨o,R.stays _ _ w2,nf w3⟩
theorem ownB_new {B:Base} {z:Z} {env:Env} {ns:Names} {vars:Vars} (R:Rep B z) (F:FrZ B env ns vars z) {a:Nat} (h:z.N<=a):¬ OwnB env ns a:=fun q=>(ownB_place R F q).elim (fun q=>absurd (q▸(F.out _ (.inl rfl)).2:a < z.N) (nK.mpr h)) fun q=>q.elim fun uu q=>absurd (Heap.lt_size q.1) (nK.mpr h)
section
variable {Y:Sys} {ns:Names} {b:Bl} {vars vars':Vars} {z z':Z} {α β:Type} {X:PostV} {N:Vars->Z->α->Prop}
theorem SCx.go (C:SCx Y b z) (g:Go Y.B none_ z z'):SCx Y b z':=⟨C.cx.go g,C.fr,C.ap⟩
theorem SCt.go (C:SCt Y ns b vars z) (g:Go Y.B none_ z z'):SCt Y ns b vars z':=⟨C.x.go g,g.rep,C.fr.go g⟩
theorem SCx.far (C:SCx Y b z) (R:Rep Y.B z) (F:FrZ Y.B b.env ns vars z):∀ e∈b.outer,∀ L,e.frame=some L->¬ OwnB b.env ns L:=fun e he L hL q =>
 (ownB_place R F q).elim (fun q=>C.ap e he (hL.trans (congrArg some q))) fun q=>q.elim fun o q=>(C.cx.lie e (.tail _ he)).2.elim fun L' r=>by obtain rfl:=oJ (hL.symm.trans r.1);exact (fo_dict r.2.2.1 q.1).1 q.2
theorem SCt.goB (C:SCt Y ns b vars z) (g:Go Y.B (OwnB b.env ns) z z') (F':FrZ Y.B b.env ns vars' z'):SCt Y ns b vars' z' :=
 ⟨⟨⟨C.x.cx.frames,C.x.cx.handled,C.x.cx.depth,C.x.cx.units,fun e he=>(nZ.mp he).elim
  (fun q=>q▸⟨F'.kind,_,C.x.fr,(F'.out _ (.inl rfl)).1,(F'.lcls _ C.x.fr).2 rfl,(C.x.cx.lie b.env (.head _)).2.elim fun L r=>by obtain rfl:=oJ (C.x.fr.symm.trans r.1);exact r.2.2.2⟩)
  fun q=>Frames.step (fs:=b.outer) (fun e he=>C.x.cx.lie e (.tail _ he)) g (C.x.far C.rep C.fr) e q,nA C.x.cx.big g.size⟩,C.x.fr,C.x.ap⟩,g.rep,F'⟩
theorem SRuns.ends {Qc:α->Shared->Prop} {E:Value->Shared->Prop} {t:Sem α} (h:SRuns Y ns b z' t N X) (g:Go Y.B (OwnB b.env ns) z z') (hQ:∀ z' vars' a,Go Y.B (OwnB b.env ns) z z'->SCt Y ns b vars' z'->N vars' z' a->Qc a z'.s)
  (hX:∀ z' a e,Go Y.B (OwnB b.env ns) z z'->SCx Y b z'->ExcF Y.B (flOf b.env) z.N z' a e->X a z'.k z'.σ->E (.ref e) z'.s):wpAny (model Y.B.prog Y.B.w) b.A t Qc E z'.s :=
 h Qc E (fun z'' v a g'=>hQ z'' v a (g.then g')) fun z'' a e g' C x=>hX z'' a e (g.then g') C (x.older g.size)
theorem SRuns.bind {t:Sem β} {f:β->Sem α} {Qa:Z->β->Prop} (C:SCt Y ns b vars z) (h:Runs Y.B b.A z t Qa X) (hf:∀ z' a,Go Y.B none_ z z'->Qa z' a->SRuns Y ns b z' (f a) N X):SRuns Y ns b z (t >>= f) N X:=fun Qc E hQ hX =>
 nE1 (h _ E (fun z' a g q=>(hf z' a g q).ends g.of hQ hX) fun z' a e g x hx=>hX z' a e g.of (C.x.go g) (x.le (nB _) fun f q=>.inl q) hx)
theorem SRuns.bindV {t:Sem Value} {f:Value->Sem α} {Q:PostV} (C:SCt Y ns b vars z) (h:Runs Y.B b.A z t (VEnd Y.B Q) X) (hf:∀ z' a v,Go Y.B none_ z z'->Vr Y.B z' a v->Q a z'.k z'.σ->SRuns Y ns b z' (f v) N X):SRuns Y ns b z (t >>= f) N X :=
 SRuns.bind C h fun z' v g q=>q.elim fun a q=>hf z' a v g q.1 q.2
theorem SRuns.then {t:Sem β} {f:β->Sem α} {N':Vars->Z->β->Prop} (h:SRuns Y ns b z t N' X) (hf:∀ z' vars' a,Go Y.B (OwnB b.env ns) z z'->SCt Y ns b vars' z'->N' vars' z' a->SRuns Y ns b z' (f a) N X):SRuns Y ns b z (t >>= f) N X:=fun Qc E hQ hX =>
 nE1 (h _ E (fun z' vars' a g C' q=>(hf z' vars' a g C' q).ends g hQ hX) hX)
theorem SRuns.pure {a:α} (C:SCt Y ns b vars z) (h:N vars z a):SRuns Y ns b z (Pure.pure a) N X:=fun Qc E hQ uu=>nF1 (hQ z vars a (Go.refl C.rep) C h)
theorem SRuns.of_wp {t t':Sem α} (h:SRuns Y ns b z t N X) (ht:∀ Qc E,wpAny (model Y.B.prog Y.B.w) b.A t Qc E z.s->wpAny (model Y.B.prog Y.B.w) b.A t' Qc E z.s):SRuns Y ns b z t' N X:=fun Qc E hQ hX=>ht Qc E (h Qc E hQ hX)
theorem SRuns.standAt {p:Pos} {t:Sem α} (h:SRuns Y ns b z t N X):SRuns Y ns b z (PySem.standAt p >>= fun uu=>t) N X:=h.of_wp fun uu uu x=>nE1 (wpAny_standAt x)
theorem SRuns.holding {vs:List Value} {t:Sem α} (h:SRuns Y ns b z t N X):SRuns Y ns b z (PySem.holding vs t) N X:=h.of_wp fun uu uu x=>nG1 x
theorem wpAny_release {M:Model} {A:Around} {vs keep:List Value} {Q:Unit->Shared->Prop} {E:Value->Shared->Prop} {s:Shared} (h:Q () s):wpAny M A (release vs keep) Q E s:=fun Γ p hΓ=>by rw [Sem.wp_release];exact h
end
section
variable {Y:Sys} {ns:Names} {p:Pos}
theorem sts_nil:StsOk Y ns [] .nil:=fun b vars z N R X h C=>SRuns.pure (a:=Flow.next) C h
theorem sts_cons {s0:Stmt} {ss0:List Stmt} {st ss:S} (h1:StOk Y ns s0 st) (h2:StsOk Y ns ss0 ss):StsOk Y ns (s0 :: ss0) (.cons st ss):=fun b vars z N R X h C=>by
 rw [execs_cons]
 refine SRuns.then (h1 b vars z _ R X h C) fun z' vars' f g C' q=>?_
 cases f with
 | next=>exact h2 b vars' z' N R X q C'
 | ret v=>exact SRuns.pure (a:=Flow.ret v) C' q
 | _=>exact q.elim
theorem st_expr {e0:Expr} {e:E} (he:EvOk Y ns e0 e) (hc:isComp e0=false):StOk Y ns (.Expr e0 p) (.expr e):=fun b vars z N R X h C=>by
 have hi:interactive b.env=false:=by unfold interactive;rw [C.fr.kind];rfl
 have hs:swapsWith e0 none p.line b.env=Pure.pure false:=by cases e0 <;> first | rfl | exact ff hc.symm
 rw [exec_Expr b.env e0 p hi hs]
 exact SRuns.standAt (SRuns.bindV C (he (b.ar vars) z _ X h C.ex) fun z' a v g ha q Qc E hQ uu=>wpAny_dropValue (hQ z' vars .next (Go.refl g.rep) (C.go g) q))
theorem st_if {t0:Expr} {a0 b0:List Stmt} {t:E} {a b:S} (ht:TrOk Y ns t0 t) (ha:StsOk Y ns a0 a) (hb:StsOk Y ns b0 b):StOk Y ns (.If t0 a0 b0 p) (.ifs t a b):=fun d vars z N R X h C=>by
 rw [exec_If]
 refine SRuns.standAt (SRuns.bind C (ht (d.ar vars) z _ (fun c k σ=>cond c (exW Y.cw a vars k σ N R X) (exW Y.cw b vars k σ N R X)) X h (fun uu uu uu h=>h) C.ex) fun z' c g q=>?_)
 cases c with
 | true=>exact ha d vars z' N R X q (C.go g)
 | false=>exact hb d vars z' N R X q (C.go g)
theorem st_ret {e0:Expr} {e:E} (he:EvOk Y ns e0 e):StOk Y ns (.Return (some e0) p) (.ret e):=fun b vars z N R X h C=>by
 rw [exec_Return_some]
 exact SRuns.standAt (SRuns.bind C (he (b.ar vars) z _ X h C.ex) fun z' v g q=>SRuns.pure (a:=Flow.ret v) (C.go g) q)
theorem g_simple {t0:Expr} {t:T} (h:AsgOk Y.B ns t0 t):GOk Y ns t0 (.simple t):=fun b vars z a v N X hw C hv Qc E hQ hX =>
 okE hw fun vars' q hw=>h b.A b.env vars vars' z a v Qc E q C.x.cx.handled C.rep C.fr hv fun z' g e1 e2 F'=>hQ z' vars' () g (C.goB g F') (by show N _ _ _;rw [e1,e2];exact hw)
theorem g_attr {o0:Expr} {o:E} {x:Nat} (CF:ClsFacts Y.B) (ho:EvOk Y ns o0 o) (hx:x < 81):GOk Y ns (.Attribute o0 (nm x) p) (.attr o x):=fun b vars z a v N X hw C hv=>by
 rw [assign_Attribute]
 refine SRuns.bindV C (Runs.holding (ho (b.ar vars) z _ X hw C.ex)) fun z₁ c ov g₁ hb h₁=>SRuns.standAt fun Qc E hQ hX=>?_
 exact nE1 (nG1 (set_attr_ok CF hx h₁ g₁.rep hb (g₁.vr hv) fun z₂ g₂ e1 h₂=>wpAny_release (hQ z₂ vars () g₂.of ((C.go g₁).go g₂) (show N _ _ _ from e1▸h₂))))
theorem g_sub {o0 i0:Expr} {o i:E} (ho:EvOk Y ns o0 o) (hi:EvOk Y ns i0 i):GOk Y ns (.Subscript o0 i0 p) (.sub o i):=fun b vars z a v N X hw C hv=>by
 skip
 refine SRuns.bindV C (Runs.holding (ho (b.ar vars) z _ X hw C.ex)) fun z₁ c ov g₁ hb h₁=>?_
 refine SRuns.bindV (C.go g₁) (Runs.holding (hi (b.ar vars) z₁ _ X h₁ (C.go g₁).ex)) fun z₂ j iv g₂ hj h₂=>SRuns.standAt fun Qc E hQ hX=>?_
 exact nE1 (nG1 (set_item_ok (line_units C.x.cx) h₂ g₂.rep (g₂.vr hb) hj (g₂.vr (g₁.vr hv)) fun z₃ g₃ e1 h₃=>wpAny_release (hQ z₃ vars () g₃.of (((C.go g₁).go g₂).go g₃) (show N _ _ _ from e1▸h₃))))
theorem gs_nil:GsOk Y ns [] .nil:=fun b vars z as vs N X hw C hv=>only hw fun uu hw=>SRuns.pure (a:=()) C hw
theorem gs_cons {g0:Expr} {gs0:List Expr} {g gs:G} (h1:GOk Y ns g0 g) (h2:GsOk Y ns gs0 gs):GsOk Y ns (g0 :: gs0) (.cons g gs):=fun b vars z as vs N X hw C hv=>by
 refine consE (C:=fun as=>Vrs Y.B z as vs->SRuns Y ns b z (assignInOrder ((g0 :: gs0).map fun e=>assign e b.env) vs) (NEnd N) X) hw (fun a as hw hv=>?_) hv
 cases vs with
 | nil=>exact hv.elim
 | cons v vs =>
  skip
  exact SRuns.then (SRuns.holding (h1 b vars z a v _ X hw C hv.1)) fun z' vars' uu g C' q=>h2 b vars' z' as vs N X q C' (g.vrs hv.2)
theorem g_tup (F0:Facts0 Y.B) {es0:List Expr} {n:Nat} {gs:G} {kk:Nat} (h:GsOk Y ns es0 gs) (hs:(es0.all fun e=>!isStarred e)=true) (hl:Nat.beq es0.length n=true):GOk Y ns (.Tuple es0 kk p) (.tup n gs):=fun b vars z a v N X hw C hv Qc E hQ hX =>
 unpack_ok F0 C.x.cx.handled hs hw (fun items hc=>only hc fun hn uu=>(nE hn).symm.trans (nE hl).symm) C.rep hv fun z' items l hc g e1 e2 hl=>only hc fun uu hw =>
  (h b vars z' items l N X (e1▸e2▸hw) (C.go g) hl).ends g.of hQ hX
end
end
section
open PySem.SeqAt PySem.MeetsSeq
noncomputable def nameIn (env:Env) (line:Nat):Expr->Option Str:=fun
  | .Name id pos=>if env.kindOf id==some .local&&pos.line==line then some id else none
  | _=>none
theorem nameIn_e {env:Env} {line:Nat} {t:Expr} {x:Str} (h:nameIn env line t=some x):∃ p,t=.Name x p/\env.kindOf x=some .local:=by
 cases t <;> first | exact nn h | skip
 rename_i y p
 skip
 have h:(if (env.kindOf y==some .local&&p.line==line)=true then some y else none)=some x:=h
 by_cases q:(env.kindOf y==some .local&&p.line==line)=true
 ·rw [if_pos q] at h
  exact band q fun q uu=>⟨p,oJ h▸rfl,oJ h▸eq_of_beq q⟩
 ·rw [if_neg q] at h;exact nn h
theorem fm_names {env:Env} {line:Nat}:∀ {ts:List Expr},(ts.filterMap (nameIn env line)).length=ts.length->tgNames ts=ts.filterMap (nameIn env line)/\∀ t∈ts,∃ x p,t=.Name x p/\env.kindOf x=some .local
 | [],_=>⟨rfl,nofun⟩
 | t :: ts,h=>by
  rw [List.filterMap_cons] at h ⊢
  cases q:nameIn env line t with
  | none =>
   rw [q] at h
   exact absurd (List.length_filterMap_le (nameIn env line) ts) (Nat.not_le.mpr (h▸nQ _))
  | some x =>
   rw [q] at h
   refine eX1 (nameIn_e q) fun p qA0=>eD2 qA0 fun eA0x1 hk=>?_;obtain rfl:=eA0x1
   have ih:=fm_names (Nat.succ.inj h)
   exact ⟨congrArg (x :: ·) ih.1,fun t ht=>(nZ.mp ht).elim (fun e=>⟨x,p,e,hk⟩) (ih.2 t)⟩
theorem swapped_cases {env:Env} {ts vs:List Expr} {kk ll:Nat} {p q:Pos} (hca:vs.all (constantsAlone 8)=false):swappedStores [.Tuple ts kk p] (.Tuple vs ll q) env=Pure.pure none ∨
  ∃ line,swappedStores [.Tuple ts kk p] (.Tuple vs ll q) env=Pure.pure (some (ts.filterMap (nameIn env line)))/\(ts.filterMap (nameIn env line)).length=ts.length:=by
 unfold swappedStores
 dsimp only
 split
 ·exact .inl rfl
 split
 ·exact .inl rfl
 split
 ·exact .inl rfl
 rename_i c3
 split
 ·exact .inl rfl
 rw [hca]
 exact .inr ⟨(Option.map (fun (x:Expr)=>x.pos.line) ts.head?).getD 0,rfl,Decidable.of_not_not fun n=>c3 (Bool.or_eq_true_iff.mpr (.inl (bne_iff_ne.mpr n)))⟩
theorem swaps_plain {env:Env} {t0 e0:Expr} (h:(eTuple t0 t3&&eTuple e0 t3)=false) (hl:eList t0 (fun uu uu=>true)=false):swappedStores [t0] e0 env=Pure.pure none:=by
 cases t0 <;> first | rfl | exact ff hl.symm | skip
 cases e0 <;> first | rfl | exact ff h.symm
noncomputable def setF:List (Str×Nat)->List AV->Vars->Vars
 | [],_,vars=>vars
 | y :: l,as,vars=>as.casesOn vars fun a as=>setF l as (vars.set y.2 (some a))
theorem setF_set {i:Nat} {x:Option AV}:∀ {l:List (Str×Nat)} {as:List AV} {vars:Vars},i ∉ l.map (·.2)->setF l as (vars.set i x)=(setF l as vars).set i x
 | [],_,_,_=>rfl
 | y :: l,[],_,_=>rfl
 | y :: l,a :: as,vars,h=>(congrArg (setF l as) (List.set_comm (l:=vars) x (some a) fun e=>h (nZ.mpr (.inl e)))).trans (setF_set fun e=>h (.tail _ e))
theorem setF_snoc {y:Str×Nat} {a:AV}:∀ {l:List (Str×Nat)} {as:List AV} {vars:Vars},l.length=as.length->setF (l ++ [y]) (as ++ [a]) vars=(setF l as vars).set y.2 (some a)
 | [],[],_,_=>rfl
 | [],_ :: _,_,h=>nomatch h
 | _ :: _,[],_,h=>nomatch h
 | _ :: l,_ :: as,_,h=>setF_snoc (l:=l) (as:=as) (Nat.succ.inj h)
theorem setF_rev:∀ {l:List (Str×Nat)} {as:List AV} {vars:Vars},(l.map (·.2)).Nodup->l.length=as.length->setF l.reverse as.reverse vars=setF l as vars
 | [],_,_,_,_=>rfl
 | _ :: _,[],_,_,h=>nomatch h
 | y :: l,a :: as,vars,hn,h=>by
  rw [List.reverse_cons,List.reverse_cons,setF_snoc (by rw [List.length_reverse,List.length_reverse];exact Nat.succ.inj h),setF_rev (nB1.mp hn).2 (Nat.succ.inj h)]
  exact (setF_set (nB1.mp hn).1).symm
theorem idx_nodup {ns:Names}:∀ {l:List (Str×Nat)},(l.map (·.1)).Nodup->(∀ y∈l,ns[y.2]?=some (y.1,NameKind.local))->(l.map (·.2)).Nodup
 | [],_,_=>.nil
 | y :: l,hn,h=>nB1.mpr ⟨fun e=>(List.mem_map.mp e).elim fun w q=>(nB1.mp hn).1 (List.mem_map.mpr ⟨w,q.1,congrArg (·.1) (oJ ((h w (.tail _ q.1)).symm.trans ((congrArg (fun (i:Nat)=>ns[i]?) q.2).trans (h y (.head _)))))⟩),idx_nodup (nB1.mp hn).2 fun y hy=>h y (.tail _ hy)⟩
section
variable {Y:Sys} {ns:Names} {b:Bl} {vars:Vars} {z:Z} {p:Pos} {lf:Nat->Arguments->Expr->Scope->Bool}
theorem swap_one {g:G} {x:Str} {px:Pos} (F:FrZ Y.B b.env ns vars z) (h:(chkG lf g ns).1 (.Name x px)=true) (hk:b.env.kindOf x=some .local):∃ i,g=.simple (.loc i)/\ns[i]?=some (x,NameKind.local):=by
 cases g <;> first | exact ff h | skip
 rename_i t
 cases t <;> first | exact ff h | skip
 ·exact atK_e h fun k hi hl=>⟨_,rfl,eq_of_beq hl▸hi⟩
 ·exact atK_e h fun k hi hl=>(F.kinds _ x _ (eq_of_beq hl▸hi:ns[_]?=some (x,NameKind.cell))).elim (fun q=>nomatch hk.symm.trans q) fun q=>nomatch q.1
noncomputable def Swap (Y:Sys) (ns:Names) (gs:G) (ts:List Expr):Prop:=∃ l:List (Str×Nat),l.map (·.1)=tgNames ts/\(∀ y∈l,ns[y.2]?=some (y.1,NameKind.local))/\∀ (as:List AV) (vars:Vars) k σ (N:PostN) X,gW Y.cw gs (.tup as) vars k σ N X->l.length=as.length/\N (setF l as vars) k σ
theorem swap_shape (F:FrZ Y.B b.env ns vars z):∀ {gs:G} {ts:List Expr},(chkG lf gs ns).2 ts=true->(∀ t∈ts,∃ x p,t=.Name x p/\b.env.kindOf x=some .local)->Swap Y ns gs ts
 | .nil,ts,h,_=>lNil_e (C:=Swap Y ns .nil) h ⟨[],rfl,nofun,fun as vars k σ N X hw=>by cases as <;> first | exact ⟨rfl,hw⟩ | exact hw.elim⟩
 | .cons g gs,ts,h,ht=>lCons_e (C:=fun ts=>(∀ t∈ts,∃ x p,t=.Name x p/\b.env.kindOf x=some .local)->Swap Y ns (.cons g gs) ts) h (fun t ts h ht=>band h fun h1 h2=>by
   refine eX1 (swap_shape F h2 fun t q=>ht t (.tail _ q)) fun l qA1=>eD3 qA1 fun q1 q2 q3=>?_
   refine eX2 (ht t (.head _)) fun x px qA2=>eD2 qA2 fun eA2x2 hk=>?_;obtain rfl:=eA2x2
   refine eX1 (swap_one F h1 hk) fun i qA3=>eD2 qA3 fun eA3x1 hi=>?_;obtain rfl:=eA3x1
   exact ⟨(x,i) :: l,congrArg (x :: ·) q1,fun y hy=>(nZ.mp hy).elim (fun e=>e▸hi) (q2 y),fun as vars k σ N X hw=>consE (C:=fun as=>l.length+1=as.length/\N (setF ((x,i) :: l) as vars) k σ) hw fun a as hw=>(q3 as _ k σ N X hw).imp (congrArg (·+1)) id⟩) ht
 | .simple _,_,h,_=>ff h
 | .attr _ _,_,h,_=>ff h
 | .sub _ _,_,h,_=>ff h
 | .tup _ _,_,h,_=>ff h
theorem bind_loc {x:Str} {i:Nat} {a:AV} {v:Value} {X:PostV} (C:SCt Y ns b vars z) (hi:ns[i]?=some (x,NameKind.local)) (ha:Vr Y.B z a v) (N:Vars->Z->Unit->Prop) (hN:∀ z',z'.k=z.k->z'.σ=z.σ->N (vars.set i (some a)) z' ()) :
  SRuns Y ns b z (bindName b.env x v) N X:=fun Qc E hQ hX=>wpAny_bindName (set_local C.rep C.fr hi ha fun z' g e1 e2 F'=>hQ z' _ () g (C.goB g F') (hN z' e1 e2))
theorem run_binds {X:PostV} {k:Nat} {σ:Store}:∀ (r:List (Str×Nat)) (as:List AV) (vs:List Value) (vars:Vars) (z:Z),(∀ y∈r,ns[y.2]?=some (y.1,NameKind.local))->r.length=as.length->Vrs Y.B z as vs->SCt Y ns b vars z->z.k=k->z.σ=σ ->
  SRuns Y ns b z (assignInOrder (r.map fun y=>bindName b.env y.1) vs) (fun vars' z' uu=>vars'=setF r as vars/\z'.k=k/\z'.σ=σ) X
 | [],as,vs,vars,z,_,_,_,C,e1,e2=>SRuns.pure (a:=()) C ⟨rfl,e1,e2⟩
 | _ :: _,[],_,_,_,_,h,_,_,_,_=>nomatch h
 | _ :: _,_ :: _,[],_,_,_,_,h,_,_,_=>h.elim
 | y :: r,a :: as,v :: vs,vars,z,h,hl,hv,C,e1,e2=>by
  skip
  refine SRuns.then (SRuns.holding (bind_loc C (h y (.head _)) hv.1 (fun vars' z' uu=>vars'=vars.set y.2 (some a)/\z'.k=k/\z'.σ=σ) fun z' q1 q2=>⟨rfl,q1.trans e1,q2.trans e2⟩)) fun z' vars' uu g C' q=>?_
  refine eD3 q fun eA4x0 q1 q2=>?_;obtain rfl:=eA4x0
  exact run_binds r as vs _ z' (fun y hy=>h y (.tail _ hy)) (Nat.succ.inj hl) (g.vrs hv.2) C' q1 q2
theorem swap_ok (F0:Facts0 Y.B) {n:Nat} {gs:G} {ts:List Expr} {a:AV} {v:Value} {N:PostN} {R X:PostV} {st:List (Value->Sem Unit)} (h:(chkG lf gs ns).2 ts=true) (hn:Nat.beq ts.length n=true) (ht:∀ t∈ts,∃ x p,t=.Name x p/\b.env.kindOf x=some .local) (hnd:(tgNames ts).Nodup)
  (hl:(tgNames ts).length=ts.length) (hw:gW Y.cw (.tup n gs) a vars z.k z.σ N X) (C:SCt Y ns b vars z) (hv:Vr Y.B z a v):SRuns Y ns b z (assignStores b.env v (some (tgNames ts)) st) (FEnd Y.B N R) X:=by
 refine eX1 (swap_shape (Y:=Y) C.fr h ht) fun l qA5=>eD3 qA5 fun q1 q2 q3=>?_
 skip
 intro Qc E hQ hX
 refine nE1 (wpAny_rule (nE1 (unpackItems_ok F0 C.x.cx.handled hw (fun items hc=>only hc fun hn' uu=>(nE hn').symm.trans ((nE hn).symm.trans hl.symm)) C.rep hv fun z₁ as vs hc g₁ e1 e2 hvs=>only hc fun uu hc=>?_)))
 refine eD2 (q3 as vars _ _ N X hc) fun r1 r2=>?_
 have e:(tgNames ts).reverse.map (fun n=>bindName b.env n)=l.reverse.map fun y=>bindName b.env y.1:=by rw [<- q1,<- List.map_reverse,List.map_map];rfl
 rw [e]
 refine (SRuns.then (run_binds l.reverse as.reverse vs.reverse vars z₁ (fun y hy=>q2 y (List.mem_reverse.mp hy)) (by rw [List.length_reverse,List.length_reverse,r1]) (vrs_rev hvs) (C.go g₁) e1 e2) fun z' vars' uu g C' q=>SRuns.pure (a:=Flow.next) C' ?_).ends g₁.of hQ hX
 show N vars' z'.k z'.σ
 rw [q.1,q.2.1,q.2.2,setF_rev (idx_nodup (q1.symm▸hnd) q2) r1]
 exact r2
theorem asg_plain {t0 e0:Expr} {g:G} {e:E} (hg:GOk Y ns t0 g) (he:EvOk Y ns e0 e) (hst:isStarred t0=false) {N:PostN} {R X:PostV} (hw:exW Y.cw (.asg g e) vars z.k z.σ N R X) (C:SCt Y ns b vars z)
  (h1:swapsWith e0 (some t0) p.line b.env=Pure.pure false) (h2:swappedStores [t0] e0 b.env=Pure.pure none):SRuns Y ns b z (exec (.Assign [t0] e0 p) b.env) (FEnd Y.B N R) X:=by
 rw [arm_exec_Assign]
 have e1:swapsWithSole [t0] e0 p.line b.env=Pure.pure false:=h1
 have e2:(assignEach [t0] b.env).map (·.2)=[assign t0 b.env]:=congrArg (List.map (·.2)) (each_eq (es:=[t0]) (Bool.and_eq_true_iff.mpr ⟨congrArg (!·) hst,rfl⟩))
 rw [e1,h2,e2]
 refine SRuns.standAt ?_
 skip
 refine SRuns.bindV C (he (b.ar vars) z _ X hw C.ex) fun z₁ a v g₁ ha h₁=>?_
 show SRuns Y ns b z₁ (assign t0 b.env v >>= fun uu=>Pure.pure Flow.next) _ _
 exact SRuns.then (hg b vars z₁ a v N X h₁ (C.go g₁) ha) fun z' vars' uu g' C' q=>SRuns.pure (a:=Flow.next) C' q
theorem g_plain {t0:Expr} {g:G} (h:(chkG lf g ns).1 t0=true):isStarred t0=false/\eList t0 (fun uu uu=>true)=false:=by
 cases t0 <;> first | exact ⟨rfl,rfl⟩ | (cases g <;> exact ff h)
theorem st_asg (F0:Facts0 Y.B) {t0 e0:Expr} {g:G} {e:E} (hg:GOk Y ns t0 g) (hc:(chkG lf g ns).1 t0=true) (hf:asgFine t0 e0=true) (he:EvOk Y ns e0 e) (hcomp:isComp e0=false):StOk Y ns (.Assign [t0] e0 p) (.asg g e):=fun b vars z N R X hw C=>by
 have h1:swapsWith e0 (some t0) p.line b.env=Pure.pure false:=by cases e0 <;> first | rfl | exact ff hcomp.symm
 refine eD2 (g_plain hc) fun hst hls=>?_
 have plain:=asg_plain (p:=p) hg he hst hw C h1
 by_cases q:(eTuple t0 t3&&eTuple e0 t3)=true
 ·unfold asgFine at hf
  rw [q] at hf
  exact band q fun q1 q2=>eTuple_e (C:=fun t0=>(swappedStores [t0] e0 b.env=Pure.pure none->SRuns Y ns b z (exec (.Assign [t0] e0 p) b.env) (FEnd Y.B N R) X)->(chkG lf g ns).1 t0=true->(eTuple t0 fun ts uu uu=>eTuple e0 fun vs uu uu=>decide (tgNames ts).Nodup&&!(vs.all (constantsAlone 8)))=true->isStarred t0=false->swapsWith e0 (some t0) p.line b.env=Pure.pure false->SRuns Y ns b z (exec (.Assign [t0] e0 p) b.env) (FEnd Y.B N R) X) q1
   (fun ts kk pt uu plain hc hf hst h1=>eTuple_e (C:=fun e0=>EvOk Y ns e0 e->(swappedStores [.Tuple ts kk pt] e0 b.env=Pure.pure none->SRuns Y ns b z (exec (.Assign [.Tuple ts kk pt] e0 p) b.env) (FEnd Y.B N R) X)->(eTuple e0 fun vs uu uu=>decide (tgNames ts).Nodup&&!(vs.all (constantsAlone 8)))=true->swapsWith e0 (some (.Tuple ts kk pt)) p.line b.env=Pure.pure false->SRuns Y ns b z (exec (.Assign [.Tuple ts kk pt] e0 p) b.env) (FEnd Y.B N R) X) q2
    (fun vs ll pv uu he plain hf h1=>band hf fun hnd hca=>(swapped_cases (env:=b.env) (ts:=ts) (kk:=kk) (p:=pt) (ll:=ll) (q:=pv) (bnot hca)).elim plain fun r=>r.elim fun line r=>by
     refine eD2 (fm_names r.2) fun n1 n2=>?_
     rw [<- n1] at r
     have e1:swapsWithSole [.Tuple ts kk pt] (.Tuple vs ll pv) p.line b.env=Pure.pure false:=h1
     rw [arm_exec_Assign,e1,r.1]
     refine SRuns.standAt ?_
     skip
     refine SRuns.bindV C (he (b.ar vars) z _ X hw C.ex) fun z₁ a v g₁ ha h₁=>?_
     rw [pure_bind]
     cases g <;> first | exact ff hc | skip
     exact band hc fun hc1 hc2=>swap_ok F0 hc2 hc1 n2 (of_decide_eq_true hnd) r.2 h₁ (C.go g₁) ha) he plain hf h1) plain hc hf hst h1
 ·exact plain (swaps_plain (Bool.eq_false_iff.mpr q) hls)
end
end
section
open PySem.SeqAt PySem.MeetsSeq
section
variable {Y:Sys} {ns:Names} {b:Bl} {vars:Vars} {z:Z} {p:Pos}
theorem asg_comp {m:Bool} {sc:Scope} {caps:List (Nat×Nat)} {t0 elt0 src0 g0:Expr} {ifs0:List Expr} {t:T} {elt src ifs:E} {g:G} {pos:Pos} (F0:Facts0 Y.B) (S:ScOk Y.B ns sc caps) (hset:isSet src0=false)
  (hsrc:EvOk Y ns src0 src) (hA:AsgOk Y.B sc.names t0 t) (hE:EvOk Y sc.names elt0 elt) (hI:AllOk Y sc.names ifs0 ifs) (hg:GOk Y ns g0 g) (hst:isStarred g0=false) :
  StOk Y ns (.Assign [g0] (.ListComp elt0 [⟨t0,src0,ifs0,0⟩] sc pos) p) (.asg g (.comp m elt t src ifs sc.names.length caps)):=fun b vars z N R X hw C=>by
 have hsw:∃ w,swapsWith (.ListComp elt0 [⟨t0,src0,ifs0,0⟩] sc pos) (some g0) p.line b.env=Pure.pure w:=by cases g0 <;> exact ⟨_,rfl⟩
 obtain ⟨w,hb⟩:=hsw
 cases w with
 | false=>exact asg_plain hg (ev_comp (m:=m) (pos:=pos) F0 S hset hsrc hA hE hI) hst hw C hb (by cases g0 <;> rfl)
 | true =>
  obtain ⟨cl,hcl⟩:=comp_close C.fr S
  have e1:swapsWithSole [g0] (.ListComp elt0 [⟨t0,src0,ifs0,0⟩] sc pos) p.line b.env=Pure.pure true:=hb
  have e2:(assignEach [g0] b.env).map (·.2)=[assign g0 b.env]:=congrArg (List.map (·.2)) (each_eq (es:=[g0]) (Bool.and_eq_true_iff.mpr ⟨congrArg (!·) hst,rfl⟩))
  rw [arm_exec_Assign,e1,e2]
  refine SRuns.standAt ?_
  show SRuns Y ns b z ((comprehension (.ListComp elt0 [⟨t0,src0,ifs0,0⟩] sc pos) sc b.env _ (newList []) false (eval src0 b.env) (some (fun v=>assign g0 b.env v)) >>= fun uu=>Pure.pure ()) >>= fun uu=>Pure.pure Flow.next) _ _
  intro Qc E hQ hX
  refine nE1 (nE1 (wpAny_mono (wpAny_comprehension_free (use:=some (fun v=>assign g0 b.env v)) (Q:=fun uu s'=>Qc .next s') rfl (folded_plain hset) (closureFor_acc hcl) S.kind S.locs
   (hsrc (b.ar vars) z _ X hw C.ex _ E (fun z₁ v g₁ q=>q.elim fun a q=>?_) fun z' a e g x hx=>hX z' a e g.of (C.x.go g) (x.le (nB _) fun f q=>.inl q) hx)) (fun uu s' hq=>nF1 (nF1 hq)) fun uu uu x=>x))
  refine comp_core F0 S hcl (C.go g₁).ex q.1 hA hE hI q.2 (fun acc L=>compPost (model Y.B.prog Y.B.w) b.A E (some (fun v=>assign g0 b.env v)) (fun uu s'=>Qc .next s') acc L) fun z' D L acc' mm gg hacc sD sL hDL hm hL hq=>?_
  refine acc_out gg.rep hacc hq fun z₃ a₃ g₃ e3 hb₃ hq₃=>?_
  skip
  have no:∀ {own:Addr->Prop} {x:Nat} {y:Z},y.N<=x->∀ a:Nat,a < y.N->a=x->own a:=fun h a ha e=>absurd ha (nK.mpr (e▸h))
  have G₃:=gg.trans g₃ (fun uu q=>q) (no sD)
  have nL:¬ OwnB b.env ns L:=ownB_new (C.go g₁).rep (C.go g₁).fr sL
  have lt:L < z'.N:=hm.elim fun uu q=>q.elim fun uu q=>q.elim fun uu q=>Heap.lt_size q.1
  have hL₃:=hL.step lt g₃ fun e=>hDL e.symm
  have lt₃:L < z₃.N:=nD lt g₃.size
  rw [<- e3]
  refine hg b vars z₃ a₃ (.ref D) N X hq₃ ((C.go g₁).go G₃) hb₃ _ E (fun z₄ vars₄ uu g₄ C₄ hq₄=>⟨mm,ns_same g₄.same (e3.symm▸hm:z₃.s.heap.Ns L mm) (hL₃.out nL),fun h' hs=>?_⟩) fun z₄ a e g₄ C₄ x hx=>hX z₄ a e (g₁.of.then (G₃.of.then g₄)) C₄ (x.older (nA g₁.size G₃.size)) hx
  have g₅:=let_go g₄.rep (hL₃.step lt₃ g₄ nL) hs z₄.s.toks
  have G:=(g₁.of.then (G₃.of.then g₄)).trans g₅ (fun uu q=>q) (no (nA g₁.size sL))
  exact hQ (z₄.put h' z₄.s.toks) vars₄ .next G (C.goB G (C₄.fr.step g₅ fun a ha e=>nL (e▸ha.b))) hq₄
theorem st_aug {x:Str} {i:Nat} {op:Operator} {e0:Expr} {e:E} {q:Pos} (hi:ns[i]?=some (x,NameKind.local)) (he:EvOk Y ns e0 e):StOk Y ns (.AugAssign (.Name x q) op e0 p) (.aug i op e):=fun b vars z N R X hw C=>okE hw fun o ho hw=>okE hw fun a ha hw=>by
 rw [arm_exec_AugAssign]
 refine SRuns.standAt fun Qc E hQ hX=>?_
 obtain ⟨m,l1,l2⟩:=C.fr.loc
 obtain ⟨v,l3,hvr⟩:=l2 i x a hi (ho.trans (congrArg some ha))
 refine nE1 (wpAny_loadName_local C.fr.kind ((C.fr.kinds i x _ hi).resolve_right fun q=>nomatch q.1) l1 l3 ?_)
 refine (SRuns.bindV (N:=FEnd Y.B N R) (X:=X) C (Runs.holding (he (b.ar vars) z _ X hw C.ex)) fun z₁ d u g₁ hd h₁=>SRuns.standAt (only h₁ fun hop h₂=>?_)) Qc E hQ hX
 obtain rfl:=of_decide_eq_true hop
 refine arithZ (C:=fun v u=>SRuns Y ns b z₁ (operate [v,u] (inplaceOp .Add v u) >>= fun r=>PySem.standAt _ >>= fun uu=>bindName b.env x r >>= fun uu=>Pure.pure Flow.next) (FEnd Y.B N R) X) h₂ (g₁.vr hvr) hd fun c t d s uu uu h=>?_
 refine SRuns.bind (C.go g₁) (Qa:=fun z' w=>Vr Y.B z' (.int (c+d)) w/\z'.k=z₁.k/\z'.σ=z₁.σ) (fun Qc E hQ hX=>wpAny_operateT (wpAny_iadd_int (hQ (z₁.put z₁.s.heap (z₁.s.toks+1)) _ (Go.tok g₁.rep _) ⟨⟨_,rfl⟩,rfl,rfl⟩))) fun z₂ w g₂ q=>SRuns.standAt ?_
 exact SRuns.then (bind_loc ((C.go g₁).go g₂) hi q.1 (fun vars' z' uu=>N vars' z'.k z'.σ) fun z' r1 r2=>by rw [r1,r2,q.2.1,q.2.2];exact h) fun z₃ vars₃ uu g₃ C₃ q=>SRuns.pure (a:=Flow.next) C₃ q
theorem CxZ.goN {B:Base} {A:Around} {fs:List Env} {n:Nat} {z₀ z z':Z} {N:Nat} (C₀:CxZ B A fs n z₀) (C:CxZ B A fs n z) (hN:z₀.N<=N) (g:Go B (N<=·) z z'):CxZ B A fs n z' :=
 C.step g fun env he L hf q=>(C₀.lie env he).2.elim fun L' r=>by obtain rfl:=oJ (hf.symm.trans r.1);exact r.2.2.1.elim fun o e=>nT _ (nD (Heap.lt_size e.1) (nA hN q))
theorem SCx.goN {z₀ z':Z} {N:Nat} (C₀:SCx Y b z₀) (C:SCx Y b z) (hN:z₀.N<=N) (g:Go Y.B (N<=·) z z'):SCx Y b z':=⟨CxZ.goN C₀.cx C.cx hN g,C.fr,C.ap⟩
structure FInv (Y:Sys) (ns:Names) (b:Bl) (z₀ z:Z) (I i:Nat) (items:List AV) (inv:Store->Prop) (W:List AV->Vars->Nat->Store->Prop) (left:List AV) (vars:Vars):Prop where
 go:Go Y.B (OwnB b.env ns) z₀ z
 cx:SCt Y ns b vars z
 pI:Priv Y.B z I
 it:ItK Y.B z I i items inv
 drop:items.drop i=left
 w:W left vars z.k z.σ
theorem st_for (F0:Facts0 Y.B) {t0 it0:Expr} {b0:List Stmt} {t:T} {it:E} {bo:S} (hA:AsgOk Y.B ns t0 t) (hit:EvOk Y ns it0 it) (hb:StsOk Y ns b0 bo) (hset:isSet it0=false):StOk Y ns (.For t0 it0 b0 [] p) (.for t it bo):=fun b vars z N R X hw C Qc E hQ hX=>by
 refine wpAny_For (hit (b.ar vars) z _ X hw C.ex _ E (fun z₁ v g₁ q=>q.elim fun a q=>?_) fun z' a e g x hx=>hX z' a e g.of (C.x.go g) (x.le (nB _) fun f q=>.inl q) hx) (folded_plain hset)
 refine iter_ok F0 q.2 g₁.rep q.1 fun z₂ I items inv hc g₂ e1 e2 K₂ P₂ hI hinv=>fewE hc fun hl h₁=>?_
 have G₂:=g₁.then g₂
 have zI:z.N<=I:=nA g₁.size hI
 have nI:¬ OwnB b.env ns I:=ownB_new C.rep C.fr zI
 have newer:∀ a:Nat,a < z.N->a=I->OwnB b.env ns a:=fun a ha e=>absurd ha (nK.mpr (e▸zI))
 have fly:∀ z' a e,Go Y.B (OwnB b.env ns) z z'->SCx Y b z'->ExcF Y.B (flOf b.env) z.N z' a e->X a z'.k z'.σ->notedBy (model Y.B.prog Y.B.w) b.A b.env (fun e s'=>cameBackBy (model Y.B.prog Y.B.w) b.A b.env E e s') (.ref e) z'.s:=fun z' a e g C' x hx=>by
  refine note_ok C'.cx.frames C'.cx.lie C'.fr g.rep x (fun f q=>q) g.size fun z'' g' q1 q2 x' hne=>?_
  refine cameBack_ok C'.fr g'.rep x' hne fun z₃ g₃ q3 q4 x₃=>?_
  have old:∀ {y:Z} (a:Nat),a < z.N->z.N<=a->OwnB b.env ns a:=fun a ha q=>absurd ha (nK.mpr q)
  exact hX z₃ a e ((g.trans g' (fun uu q=>q) (old (y:=z))).trans g₃ (fun uu q=>q) (old (y:=z))) (C.x.goN (C.x.goN C' (nB _) g') (nB _) g₃) (x₃.le (nB _) fun f q=>.inr q) (by rw [q3,q4,q1,q2];exact hx)
 refine codeAny_forLoop_any (fun j s=>∃ z' i left vars',s=z'.s/\left.length=j/\FInv Y ns b z z' I i items inv (fun l vars k σ=>forW t (fun vars k σ N=>exW Y.cw bo vars k σ N R X) inv l vars k σ N) left vars') (fun j s hI'=>?_) items.length
  ⟨z₂,0,items,vars,rfl,rfl,G₂.of,C.go G₂,P₂,K₂,List.drop_zero,e1▸e2▸h₁⟩
 obtain ⟨z₃,i,left,vars₃,rfl,rfl,V⟩:=hI'
 have own1:∀ a,Own b.env ns vars₃ a->¬ a=I:=fun a ha e=>nI (e▸ha.b)
 have hh:=C.x.cx.handled
 cases left with
 | nil =>
  obtain ⟨hi,hq⟩:=V.w
  refine next_end hh V.cx.rep V.pI V.it hi (List.drop_eq_nil_iff.mp V.drop) fun z' g e1 e2=>wpAny_execs_nil ?_
  have G:=V.go.trans g (fun uu q=>q) newer
  exact hQ z' vars₃ .next G (C.goB G (V.cx.fr.step g own1)) (by show N _ _ _;rw [e1,e2];exact hq)
 | cons c left =>
  obtain ⟨hi,hw⟩:=V.w
  obtain ⟨hit,hdrop⟩:=drop_one V.drop
  refine next_item hh V.cx.rep V.pI V.it hi hit fun z₄ v g₄ e3 e4 hv K₄ P₄=>?_
  have G₄:=V.go.trans g₄ (fun uu q=>q) newer
  refine okE hw fun vars' hT hw=>own_go K₄ (hA b.A b.env vars₃ vars' z₄ c v _ _ hT hh g₄.rep (V.cx.fr.step g₄ own1) hv fun z₅ g₅ e5 e6 F₅=>?_)
  have G₅:=G₄.then g₅
  have P₅:=P₄.step K₄.lt g₅ nI
  have K₅:=K₄.step P₄ g₅ nI
  refine hb b vars' z₅ _ R X (by rw [e5,e6,e3,e4];exact hw) (C.goB G₅ F₅) _ _ (fun z₆ vars₆ f g₆ C₆ q=>?_) fun z' a e g C' x hx=>fly z' a e (G₅.then g) C' (x.older G₅.size) hx
  have G₆:=G₅.then g₆
  cases f with
  | next=>exact ⟨left.length,nQ _,z₆,i+1,left,vars₆,rfl,rfl,G₆,C₆,P₅.step K₅.lt g₆ nI,K₅.step P₅ g₆ nI,hdrop,q⟩
  | ret w=>exact hQ z₆ vars₆ (.ret w) G₆ C₆ q
  | _=>exact q.elim
end
end
section
open PySem.SeqAt PySem.MeetsSeq
theorem lookup_zip {α:Type}:∀ {ns:List Str} {xs:List α},ns.Nodup->∀ {j:Nat} {x:Str},ns[j]?=some x->(ns.zip xs).lookup x=xs[j]?
 | [],_,_,_,_,h=>nn h
 | _ :: _,[],_,_,_,_=>rfl
 | _ :: _,_ :: _,_,0,_,h=>oJ h▸List.lookup_cons_self
 | n :: ns,_ :: xs,hn,j+1,y,h=>(lookup_ne fun (e:y=n)=>(nB1.mp hn).1 (e▸List.mem_of_getElem? (h:ns[j]?=some y))).trans (lookup_zip (xs:=xs) (nB1.mp hn).2 h)
noncomputable def fillD (slots:List (Str×Value)):List (Str×Value)->List (Str×Value)
 | []=>slots
 | p :: r=>fillD (if (slots.lookup p.1).isNone=true then slots ++ [p] else slots) r
theorem fillD_lookup (x:Str):∀ (l slots:List (Str×Value)),(fillD slots l).lookup x=(slots.lookup x).or (l.lookup x)
 | [],slots=>Option.or_none.symm
 | p :: r,slots=>by
  rw [fillD,fillD_lookup x r]
  by_cases e:x=p.1
  ·subst e
   cases q:slots.lookup p.1 with
   | none=>rw [if_pos (show (none:Option Value).isNone=true from rfl),List.lookup_append,q,List.lookup_cons_self,Option.none_or,Option.none_or,List.lookup_cons_self];rfl
   | some v=>rw [if_neg (show ¬ (some v:Option Value).isNone=true from nofun),q];rfl
  ·rw [lookup_ne e]
   split
   ·rw [List.lookup_append,lookup_ne e,List.lookup_nil,Option.or_none]
   ·rfl
theorem fill_forIn (s0:List (Str×Value)):∀ (l:List (Str×Value)),(forIn l s0 (fun x s=>(if (s.lookup x.1).isNone=true then pure (ForInStep.yield (s ++ [(x.1,x.2)])) else pure (ForInStep.yield s):Sem (ForInStep (List (Str×Value))))))=pure (fillD s0 l)
 | []=>rfl
 | p :: r=>by
  rw [List.forIn_cons,fillD]
  by_cases h:(s0.lookup p.1).isNone=true
  ·rw [if_pos h,if_pos h,pure_bind]
   exact fill_forIn _ r
  ·rw [if_neg h,if_neg h,pure_bind]
   exact fill_forIn _ r
theorem filterMap_zip {S:List (Str×Value)}:∀ {ns:List Str} {xs:List Value},ns.length=xs.length->(∀ (j:Nat) x,ns[j]?=some x->S.lookup x=xs[j]?)->(ns.filterMap fun n=>(S.lookup n).map (n,·))=ns.zip xs
 | [],[],_,_=>rfl
 | [],_ :: _,h,_=>nomatch h
 | _ :: _,[],h,_=>nomatch h
 | n :: ns,x :: xs,h,hl=>by
  rw [List.filterMap_cons,(hl 0 n rfl:S.lookup n=some x)]
  exact congrArg ((n,x) :: ·) (filterMap_zip (Nat.succ.inj h) fun j y hy=>hl (j+1) y hy)
theorem seq_dflt {M:Model} {A:Around} {v:Value} {ds:List Value} {s:Shared} {E:Value->Shared->Prop} {Q':Option (Array Value)->Shared->Prop} (hd:(v=.none/\ds=[])∨∃ a items n,v=.ref a/\s.heap.get? a=some (rowObj "tuple" items n)/\ds=items.toList) (hQ':∀ r,(r.getD #[]).toList=ds->Q' r s):wpAny M A (seqItems? v) Q' E s:=by
 rcases hd with ⟨e1,e2⟩ | ⟨a,items,k,e1,e2,e3⟩
 ·rw [e1]
  exact nE1 (nF1 (nF1 (hQ' none e2.symm)))
 ·rw [e1]
  exact nE1 (wpAny_load e2 (nF1 (hQ' (some items) e3.symm)))
theorem wIf {α:Type} {M:Model} {A:Around} {c:Prop} [Decidable c] {a b:Sem α} {Q:α->Shared->Prop} {E:Value->Shared->Prop} {s:Shared} (h:¬c) (k:wpAny M A b Q E s):wpAny M A (if c then a else b) Q E s:=by
 rw [if_neg h]
 exact k
theorem bind_end {ns:List Str} {vals ds:List Value} (h1:vals.length<=ns.length) (h2:ns.length - vals.length<=ds.length) (h3:ds.length<=ns.length) (hn:ns.Nodup) :
  ((ns.take (ns.length - ds.length)).filter fun n=>((ns.zip vals).lookup n).isNone)=[]/\(ns.filterMap fun n=>((fillD (ns.zip vals) ((ns.drop (ns.length - ds.length)).zip ds)).lookup n).map (n,·))=ns.zip (vals ++ ds.drop (ds.length - (ns.length - vals.length))):=by
 have le:ns.length - ds.length<=vals.length:=Nat.sub_le_iff_le_add.mpr (Nat.sub_le_iff_le_add'.mp h2)
 refine ⟨?_,?_⟩
 ·rw [List.filter_eq_nil_iff]
  intro x hx
  refine eX1 (List.mem_iff_getElem?.mp hx) fun j hj=>?_
  have hjl:=nD (nD (List.getElem?_eq_some_iff.mp hj).1 (List.length_take_le _ _)) le
  rw [lookup_zip hn ((List.getElem?_take_of_lt (nD (List.getElem?_eq_some_iff.mp hj).1 (List.length_take_le _ _))).symm.trans hj),nA1 hjl]
  exact nofun
 ·have tl:(vals ++ ds.drop (ds.length - (ns.length - vals.length))).length=ns.length:=by
   rw [List.length_append,List.length_drop,Nat.sub_sub_self h2,Nat.add_sub_of_le h1]
  refine filterMap_zip tl.symm fun j x hx=>?_
  rw [fillD_lookup,lookup_zip hn hx]
  by_cases q:j < vals.length
  ·rw [List.getElem?_append_left q,nA1 q];rfl
  ·have q:=nK.mp q
   rw [List.getElem?_append_right q,List.getElem?_eq_none q,Option.none_or,List.getElem?_drop]
   rw [lookup_zip (j:=j - (ns.length - ds.length)) (hn.sublist (List.drop_sublist ..)) (by rw [List.getElem?_drop,Nat.add_sub_of_le (nA le q)];exact hx)]
   exact congrArg (fun i=>ds[i]?) (om105 h1 h2 h3 (nK.mpr q))
theorem bindArgs_ok {M:Model} {A:Around} {fd:FuncData} {vals:List Value} {ps:List Arg} {dd:List Expr} {ds:List Value} {Q:List (Str×Value)->Shared->Prop} {E:Value->Shared->Prop} {s:Shared} (hp:fd.params=⟨[],ps,none,[],[],none,dd⟩)
  (hd:(fd.defaults=.none/\ds=[])∨∃ a items n,fd.defaults=.ref a/\s.heap.get? a=some (rowObj "tuple" items n)/\ds=items.toList) (h1:vals.length<=ps.length) (h2:ps.length - vals.length<=ds.length) (h3:ds.length<=ps.length) (hn:(ps.map (·.arg)).Nodup)
  (hQ:Q ((ps.map (·.arg)).zip (vals ++ ds.drop (ds.length - (ps.length - vals.length)))) s):wpAny M A (bindArgs fd ⟨vals,[]⟩) Q E s:=by
 unfold bindArgs
 simp only [hp,List.map_nil,List.nil_append,List.append_nil,List.forIn_nil,pure_bind]
 rw [<- nY (as:=ps) (·.arg)] at h1 h2 h3 hQ
 generalize ps.map (·.arg)=ns at *
 refine nE1 (seq_dflt hd fun r hr=>?_)
 cases hr
 refine wIf (fun q=>absurd (of_decide_eq_true (Bool.and_eq_true_iff.mp q).1) (nK.mpr h1)) ?_
 refine wIf ?_ ?_
 ·rw [Nat.sub_eq_zero_of_le h3,List.drop_zero,(bind_end h1 h2 h3 hn).1]
  exact nofun
 ·rw [Nat.sub_eq_zero_of_le h3,List.drop_zero,fill_forIn,pure_bind,(bind_end h1 h2 h3 hn).2]
  exact nF1 hQ
theorem slotsAre_mem {ns:Names} {p:NameKind->Bool}:∀ {is:List Nat} {ps:List Arg},slotsAre ns p is ps=true->∀ {j:Nat},j∈is->∃ a∈ps,∃ k,ns[j]?=some (a.arg,k)
 | [],_,_,_,e=>nomatch e
 | i :: is,ps,h,j,e=>lCons_e (C:=fun ps=>∃ a∈ps,∃ k,ns[j]?=some (a.arg,k)) h fun a r h=>band h fun h1 h2=>(nZ.mp e).elim (fun e=>atK_e h1 fun k hk uu=>⟨a,.head _,k,e▸hk⟩) fun e=>(slotsAre_mem h2 e).imp fun a q=>⟨.tail _ q.1,q.2⟩
theorem slotsAre_len {ns:Names} {p:NameKind->Bool}:∀ {is:List Nat} {ps:List Arg},slotsAre ns p is ps=true->is.length=ps.length
 | [],ps,h=>lNil_e (C:=fun ps=>0=ps.length) h rfl
 | i :: is,ps,h=>lCons_e (C:=fun ps=>is.length+1=ps.length) h fun a r h=>band h fun uu h2=>congrArg (·+1) (slotsAre_len h2)
section
variable {B:Base} {A:Around} {z:Z} {env:Env} {ns:Names}
theorem binds_ok {p:NameKind->Bool} (hp:∀ k,p k=true->k=NameKind.local∨k=NameKind.cell):∀ (is:List Nat) (ps:List Arg) (as:List AV) (vs:List Value) (vars vars':Vars) (z:Z),slotsAre ns p is ps=true->(ps.map (·.arg)).Nodup->setAll is as vars=some vars'->(∀ i∈is,vars[i]?=some none)->Rep B z->FrZ B env ns vars z->Vrs B z as vs ->
  ∀ (Q:PUnit->Shared->Prop) (E:Value->Shared->Prop),(∀ z',Go B (OwnB env ns) z z'->z'.k=z.k->z'.σ=z.σ->FrZ B env ns vars' z'->Q PUnit.unit z'.s)->wpAny (model B.prog B.w) A (forIn ((ps.map (·.arg)).zip vs) PUnit.unit fun x uu=>do storeName env x.1 x.2;pure (ForInStep.yield PUnit.unit)) Q E z.s
 | [],ps,as,vs,vars,vars',z,h1,_,h4,_,R,F,hv,Q,E,hQ=>lNil_e (C:=fun ps=>wpAny (model B.prog B.w) A (forIn ((ps.map (·.arg)).zip vs) PUnit.unit fun x uu=>do storeName env x.1 x.2;pure (ForInStep.yield PUnit.unit)) Q E z.s) h1 (by
   cases as with
   | cons=>exact nn h4
   | nil=>exact nF1 (hQ z (Go.refl R) rfl rfl (oJ h4▸F)))
 | i :: is,ps,as,vs,vars,vars',z,h1,h3,h4,h5,R,F,hv,Q,E,hQ=>lCons_e (C:=fun ps=>(ps.map (·.arg)).Nodup->wpAny (model B.prog B.w) A (forIn ((ps.map (·.arg)).zip vs) PUnit.unit fun x uu=>do storeName env x.1 x.2;pure (ForInStep.yield PUnit.unit)) Q E z.s) h1 (fun x ps h1 h3=>band h1 fun h1 h2=>by
   have h3:=nB1.mp h3
   cases as with
   | nil=>exact nn h4
   | cons a as =>
    cases vs with
    | nil=>exact hv.elim
    | cons v vs =>
     refine atK_e h1 fun k hk hpk=>?_
     have hfresh:∀ j∈is,(vars.set i (some a))[j]?=some none:=fun j hj=>(List.getElem?_set_ne fun e=>by
      obtain ⟨y,hy,k',hk'⟩:=slotsAre_mem h2 hj
      exact h3.1 (List.mem_map.mpr ⟨y,hy,(congrArg (·.1) (oJ (hk.symm.trans (e▸hk')))).symm⟩)).trans (h5 j (.tail _ hj))
     rw [nD1,List.zip_cons_cons,List.forIn_cons,bind_assoc]
     have next:∀ z',Go B (OwnB env ns) z z'->z'.k=z.k->z'.σ=z.σ->FrZ B env ns (vars.set i (some a)) z'->wpAny (model B.prog B.w) A (Pure.pure (ForInStep.yield PUnit.unit) >>= fun r=>match r with | .done b=>Pure.pure b | .yield b=>forIn ((ps.map (·.arg)).zip vs) b fun x uu=>do storeName env x.1 x.2;Pure.pure (ForInStep.yield PUnit.unit)) Q E z'.s:=fun z' g e1 e2 F'=>by
      rw [pure_bind]
      exact binds_ok hp is ps as vs _ vars' z' h2 h3.2 h4 hfresh g.rep F' (g.vrs hv.2) Q E fun z'' g' e3 e4 F''=>hQ z'' (g.then g') (e3.trans e1) (e4.trans e2) F''
     exact (hp k hpk).elim (fun e=>nE1 (set_local R F (e▸hk) hv.1 next)) fun e=>nE1 (set_cell R F (e▸hk) (h5 i (.head _)) hv.1 next)) h3
theorem cells_more {x:Str}:∀ (l:Names) (m:Nat) (acc:List (Str×Addr)),(acc.lookup x).isSome->((cellsFrom m l acc).lookup x).isSome
 | [],_,_,h=>h
 | y :: r,m,acc,h=>by
  unfold cellsFrom
  split
  ·refine cells_more r _ _ ?_
   by_cases q:x=y.1
   ·exact q▸(congrArg Option.isSome List.lookup_cons_self).trans rfl
   ·exact (congrArg Option.isSome (lookup_ne q)).trans h
  ·exact cells_more r _ _ h
theorem cells_has {x:Str}:∀ (l:Names) (m:Nat) (acc:List (Str×Addr)),(x,NameKind.cell)∈l->((cellsFrom m l acc).lookup x).isSome
 | y :: r,m,acc,h=>by
  unfold cellsFrom
  rcases nZ.mp h with h | h
  ·obtain rfl:=h
   exact cells_more r _ _ ((congrArg Option.isSome List.lookup_cons_self).trans rfl)
  ·split <;> exact cells_has r _ _ h
theorem pushCells_size:∀ (l:Names) (h:Heap),h.objs.size<=(pushCells h l).objs.size
 | [],_=>nB _
 | y :: r,h=>by
  unfold pushCells
  split
  ·exact nA (push_le _ _) (pushCells_size r _)
  ·exact pushCells_size r h
theorem new_frame {sc:Scope} {qual:Str} {a:Addr} {code:Value} {binds:List (Str×Value)} {cl:List (Str×Addr)} {vars:Vars} {Q:Env->Shared->Prop} {E:Value->Shared->Prop} (R:Rep B z) (hk:sc.kind=.function) (hnd:(sc.names.map (·.1)).Nodup) (hlen:vars.length=sc.names.length)
  (hcode:∀ c t q,B.P.cdo sc.names=some (c,t,q)->code=.ref c/\qual ++ "<lambda>"=q) (hcl:cl=[]∨∀ (i:Nat) (x:Str),sc.names[i]?≠some (x,NameKind.cell))
  (hv:∀ (j:Nat) b,vars[j]?=some (some b)->∃ x c v,sc.names[j]?=some (x,NameKind.free)/\(cellsFrom (z.N+1) sc.names cl).lookup x=some c/\z.g.IsCell c (some v)/\Vr B z b v)
  (hQ:∀ z' env,env.scope.kind=.function->env.frame=some env.locals->Go B none_ z z'->z'.k=z.k->z'.σ=z.σ->FrZ B env sc.names vars z'->(∀ b,OwnB env sc.names b->z.N<=b) ->
   wpAny (model B.prog B.w) A (forIn binds PUnit.unit fun x uu=>do storeName env x.1 x.2;pure (ForInStep.yield PUnit.unit)) (fun uu s'=>Q env s') E z'.s) :
  wpAny (model B.prog B.w) A (newFunctionEnv sc mainGlobals cl binds qual (some a) code none builtinsNs) Q E z.s:=by
 simp only [newFunctionEnv,Option.isSome_none,Bool.false_eq_true,if_false]
 refine nE1 (wpAny_alloc ?_)
 refine nE1 (wpAny_layCells _ (fun name kind cells=>by cases hkc:kind==NameKind.cell <;> simp [hkc]) _ _ _ _ ?_)
 let h₀:=z.s.heap.push { cls:=.type "frame",data:=.dict #[] }
 have sz1:h₀.objs.size=z.N+1:=Heap.size_push ..
 rw [show ({ z.s with heap:=z.s.heap.push { cls:=.type "frame",data:=.dict #[] } }:Shared).heap.objs.size=z.N+1 from sz1]
 have keep:∀ b o,z.s.heap.get? b=some o->(pushCells h₀ sc.names).get? b=some o:=fun b o e=>pushCells_keeps _ _ b o (Heap.get?_push_of_some _ e)
 have szz:z.N < (pushCells h₀ sc.names).objs.size:=nD (sz1▸nQ _) (pushCells_size ..)
 have g:Go B none_ z (z.put (pushCells h₀ sc.names) z.s.toks):=Go.push R keep (nU szz) _
 have hL:(pushCells h₀ sc.names).get? z.N=some { cls:=.type "frame",data:=.dict #[] }:=pushCells_keeps _ _ _ _ (Heap.get?_push_size _ rfl)
 have new:∀ {b},z.N<=b->Priv B (z.put (pushCells h₀ sc.names) z.s.toks) b:=fun hb=>(Priv.new R hb).put _ _
 have ok₀:=cellsFrom_ok sc.names h₀ (z.N+1) [] ⟨fun uu uu hm=>(nomatch hm),List.Pairwise.nil⟩ (nG sz1.symm)
 rw [sz1] at ok₀
 have ok:∀ {i:Nat} {x:Str},sc.names[i]?=some (x,NameKind.cell)->CellsOk (pushCells h₀ sc.names) (z.N+1) (cellsFrom (z.N+1) sc.names cl):=fun e=>hcl.elim (fun q=>q▸ok₀) fun n=>absurd e (n _ _)
 have own:∀ b,OwnB (newEnv sc z.N mainGlobals (cellsFrom (z.N+1) sc.names cl) qual (some a) code none builtinsNs) sc.names b->z.N<=b:=fun b hb=>hb.elim (fun e=>nG e.symm) fun q=>q.elim fun i q=>q.elim fun x q=>nO ((ok q.1).empty x b (mem_of_lookup q.2)).2
 refine nE1 (wpAny_mono (hQ _ (newEnv sc z.N mainGlobals (cellsFrom (z.N+1) sc.names cl) qual (some a) code none builtinsNs) hk rfl g rfl rfl
  ⟨hk,rfl,rfl,fun i x kd h=>.inl (lookup_at hnd h),hlen,hnd,⟨fun uu=>none,(Heap.Ns.new z.s.heap (.type "frame")).keeps (pushCells_keeps _ _),fun i x b e1 e2=>?_⟩,fun i x kd b e1 e2 e3=>?_,
   fun i x e1 e2=>?_,fun b hb=>⟨new (own b hb.b),?_⟩,hcode,fun i x c e1 e2 (e:c=z.N)=>Nat.not_succ_le_self z.N (e▸((ok e1).empty x c (mem_of_lookup e2)).2),fun i j x y c e1 e2 e3 e4=>?_,fun L hL'=>?_⟩ own) (fun uu s' h=>nF1 h) fun uu uu x=>x)
 ·refine eX3 (hv i b e2) fun x' c v qA2=>eD2 qA2 fun w1 uu=>?_
  cases e1.symm.trans w1
 ·refine eX3 (hv i b e3) fun x' c v qA3=>eD2 qA3 fun w1 w2=>?_
  cases e1.symm.trans w1
  exact ⟨c,v,w2⟩
 ·refine eX1 (Option.isSome_iff_exists.mp (cells_has sc.names (z.N+1) cl (List.mem_of_getElem? e1))) fun c hc=>?_
  exact ⟨c,hc,((ok e1).empty x c (mem_of_lookup hc)).1⟩
 ·exact hb.elim (fun e=>e▸szz) fun q=>q.elim fun i q=>q.elim fun x q=>((ok q.1).empty x b (mem_of_lookup q.2.2)).1.lt
 ·obtain rfl:=name_of_addr (ok e1).apart (mem_of_lookup e3) (mem_of_lookup e4)
  exact nodup_at hnd e1 e2
 ·obtain rfl:=oJ hL'
  exact ⟨szz,fun uu=>⟨_,hL,fun n=>n ⟨rfl,_,_,rfl⟩⟩⟩
end
end
section
open PySem.SeqAt PySem.MeetsSeq
theorem headE {n:Nat} {sl:List Nat} {p:NameKind->Bool} {a:Arguments} {sc:Scope} {C:Prop} (h:chkHead n sl p a sc=true)
  (f:a=⟨[],a.args,none,[],[],none,a.defaults⟩->slotsAre sc.names p sl a.args=true->(a.args.map (·.arg)).Nodup->sc.kind=.function->(sc.names.map (·.1)).Nodup->sc.isCoroutine=false->sc.isGenerator=false->sc.names.length=n->C):C :=
 band h fun h h12=>band h fun h h11=>band h fun h h10=>band h fun h h9=>band h fun h h8=>band h fun h h7=>band h fun h h6=>band h fun h h5=>band h fun h h4=>band h fun h h3=>band h fun h1 h2=>by
  refine f ?_ h6 (of_decide_eq_true h7) (eq_of_beq h8) (of_decide_eq_true h9) (bnot h10) (bnot h11) (of_decide_eq_true h12)
  obtain ⟨q1,q2,q3,q4,q5,q6,q7⟩:=a
  exact lNil_e (C:=fun q1=>(⟨q1,q2,q3,q4,q5,q6,q7⟩:Arguments)=⟨[],q2,none,[],[],none,q7⟩) h1 (oNone_e (C:=fun q3=>(⟨[],q2,q3,q4,q5,q6,q7⟩:Arguments)=⟨[],q2,none,[],[],none,q7⟩) h2 (lNil_e (C:=fun q4=>(⟨[],q2,none,q4,q5,q6,q7⟩:Arguments)=⟨[],q2,none,[],[],none,q7⟩) h3
   (lNil_e (C:=fun q5=>(⟨[],q2,none,[],q5,q6,q7⟩:Arguments)=⟨[],q2,none,[],[],none,q7⟩) h4 (oNone_e (C:=fun q6=>(⟨[],q2,none,[],[],q6,q7⟩:Arguments)=⟨[],q2,none,[],[],none,q7⟩) h5 rfl))))
noncomputable def DfltsAt (h:Heap) (v:Value) (ds:List Value):Prop:=(v=.none/\ds=[])∨∃ a items n,v=.ref a/\h.get? a=some (rowObj "tuple" items n)/\ds=items.toList
structure FnAt (B:Base) (lf:Nat->Arguments->Expr->Scope->Bool) (f:Nat) (fn:Fn):Prop where
 obj:∃ o fd ds body,B.hb.get? (B.P.fa f)=some o/\o.data=.func fd/\fd.body=.stmts body/\chkFn lf fn fd.params body fd.scope=true/\fd.globals=mainGlobals/\fd.builtins=builtinsNs/\fd.closure=[]/\B.hb.CodeRec fd.code fd.qualname /\
  DfltsAt B.hb fd.defaults ds/\VRs B.P B.hb (fun uu=>none) fn.dflts ds/\∀ c t q,B.P.cdo fd.scope.names=some (c,t,q)->fd.code=.ref c/\(fd.qualname ++ ".<locals>.") ++ "<lambda>"=q
theorem vrs_drop {P:Places} {g:Heap} {ρ:Rho}:∀ {as:List AV} {vs:List Value},VRs P g ρ as vs->∀ (k:Nat),VRs P g ρ (as.drop k) (vs.drop k)
 | _,_,h,0=>h
 | [],[],h,_+1=>h
 | [],_ :: _,h,_=>h.elim
 | _ :: _,[],h,_=>h.elim
 | _ :: _,_ :: _,h,k+1=>vrs_drop h.2 k
theorem restr_less {k:Nat} {σ:Store}:∀ i c,restr k σ i=some c->σ i=some c:=fun i c h=>by
 unfold restr at h
 split at h
 ·exact h
 ·exact nn h
theorem ExcF.sg {B:Base} {z:Z} {fl:Value->Prop} {N:Nat} {t:AV} {e:Addr} (x:ExcF B fl N z t e) (σ:Store):ExcF B fl N (z.sg σ) t e :=
 ⟨x.is.imp fun uu q=>q.imp fun uu q=>q.imp fun uu q=>q.imp fun uu q=>q.imp fun uu q=>⟨q.1,q.2.1,q.2.2.1,q.2.2.2.1,q.2.2.2.2.1,q.2.2.2.2.2.1,q.2.2.2.2.2.2.1,q.2.2.2.2.2.2.2.imp id fun q=>q.imp fun uu q=>q.imp fun uu q=>q.imp fun uu q=>q.imp fun uu q=>⟨q.1,q.2.1,q.2.2.1,⟨q.2.2.2.1.g,q.2.2.2.1.tab,q.2.2.2.1.ρ⟩,q.2.2.2.2⟩⟩,⟨x.out.g,x.out.tab,x.out.ρ⟩,x.new⟩
section
variable {Y:Sys} {A:Around} {z:Z} {fs:List Env}
theorem enter {env:Env} {ns:Names} {vars:Vars} {z':Z} (C:CxC Y.B A fs (Y.n+1) z) (hf:env.frame=some env.locals) (hL:z.N<=env.locals) (G:Go Y.B none_ z z') (F:FrZ Y.B env ns vars z'):SCt Y ns ⟨A.deeper env,env,fs⟩ vars z' :=
 ⟨⟨⟨Around.frames_deeper C.frames,C.handled,nA (show A.depth+1+20*Y.n+10<=A.depth+20*(Y.n+1) by exact om147) C.depth,nA (show A.units+3+100*Y.n+50<=A.units+100*(Y.n+1) by exact om148) C.units,
  fun e he=>(nZ.mp he).elim (fun q=>q▸⟨F.kind,_,hf,(F.out _ (.inl rfl)).1,(F.lcls _ hf).2 rfl,nA C.big hL⟩) fun q=>Frames.step C.lie G (fun uu uu uu uu q=>q) e q,nA C.big G.size⟩,hf,
  fun e he q=>(C.lie e he).2.elim fun L r=>by obtain rfl:=oJ (q.symm.trans r.1);exact r.2.2.1.elim fun o r=>nT _ (nD (Heap.lt_size r.1) hL)⟩,G.rep,F⟩
theorem setup {p:NameKind->Bool} {sc:Scope} {qual:Str} {a:Addr} {code:Value} {cl:List (Str×Addr)} {vars0 vars:Vars} {sl:List Nat} {ps:List Arg} {as:List AV} {vs:List Value} {Q:Env->Shared->Prop} {E:Value->Shared->Prop} (hp:∀ k,p k=true->k=NameKind.local∨k=NameKind.cell)
  (C:CxC Y.B A fs (Y.n+1) z) (R:Rep Y.B z) (hk:sc.kind=.function) (hnd:(sc.names.map (·.1)).Nodup) (hlen:vars0.length=sc.names.length)
  (hcode:∀ c t q,Y.B.P.cdo sc.names=some (c,t,q)->code=.ref c/\qual ++ "<lambda>"=q) (hcl:cl=[]∨∀ (i:Nat) (x:Str),sc.names[i]?≠some (x,NameKind.cell))
  (hv:∀ (j:Nat) b,vars0[j]?=some (some b)->∃ x c v,sc.names[j]?=some (x,NameKind.free)/\(cellsFrom (z.N+1) sc.names cl).lookup x=some c/\z.g.IsCell c (some v)/\Vr Y.B z b v)
  (hsl:slotsAre sc.names p sl ps=true) (hpn:(ps.map (·.arg)).Nodup) (hset:setAll sl as vars0=some vars) (has:Vrs Y.B z as vs)
  (hQ:∀ z' env,SCt Y sc.names ⟨A.deeper env,env,fs⟩ vars z'->Go Y.B none_ z z'->z'.k=z.k->z'.σ=z.σ->(∀ b,OwnB env sc.names b->z.N<=b)->Q env z'.s) :
  wpAny (model Y.B.prog Y.B.w) A.in1 (newFunctionEnv sc mainGlobals cl ((ps.map (·.arg)).zip vs) qual (some a) code none builtinsNs) Q E z.s:=by
 refine new_frame R hk hnd hlen hcode hcl hv fun z₁ env hkd hf g₁ e1 e2 F₁ hown=>?_
 refine binds_ok hp sl ps as vs vars0 vars z₁ hsl hpn hset (fun i hi=>?_) g₁.rep F₁ (g₁.vrs has) _ _ fun z₂ g₂ e3 e4 F₂=>?_
 ·obtain ⟨x,_,k,hik⟩:=slotsAre_mem hsl hi
  have hil:i < vars0.length:=hlen▸(List.getElem?_eq_some_iff.mp hik).1
  cases hq:vars0[i] with
  | none=>exact (nA1 hil).trans (congrArg some hq)
  | some b =>
   refine eX3 (hv i b ((nA1 hil).trans (congrArg some hq))) fun y c v qA2=>eD2 qA2 fun w1 uu=>?_
   have:∀ {sl:List Nat} {ps:List Arg},slotsAre sc.names p sl ps=true->i ∉ sl:=fun {sl}=>by
    induction sl with
    | nil=>exact fun uu=>nofun
    | cons j sl ih=>exact fun {ps} h=>lCons_e (C:=fun uu=>i ∉ j :: sl) h fun a r h=>band h fun h1 h2 e=>(nZ.mp e).elim (fun e=>atK_e h1 fun k hk q=>by cases w1.symm.trans (e▸hk);exact (hp _ q).elim nofun nofun) (ih h2)
   exact absurd hi (this hsl)
 ·have G:Go Y.B none_ z z₂:=g₁.trans g₂ (fun uu q=>q) fun b hb q=>absurd hb (nK.mpr (hown b q))
  exact hQ z₂ env (enter C hf (hown _ (.inl rfl)) G F₂) G (e3.trans e1) (e4.trans e2) hown
theorem noLimit {B:Base} {z:Z} (HL:B.hb.NoLimit) (R:Rep B z):z.s.heap.NoLimit:=HL.elim fun mc q=>⟨mc,q.1.keeps fun b o e=>R.stays _ _ (R.base _ _ e),q.2⟩
theorem isOwn_e:∀ k,isOwn k=true->k=NameKind.local∨k=NameKind.cell:=fun k h=>by cases k <;> first | exact .inl rfl | exact .inr rfl | exact ff h
theorem room {B:Base} {n:Nat} (C:CxC B A fs n z):A.depth < recursionLimit:=nF (nA (nP _ _) C.depth) (by decide)
theorem base_vrs {B:Base} {as:List AV} {vs:List Value} (R:Rep B z) (h:VRs B.P B.hb (fun uu=>none) as vs):Vrs B z as vs:=vrs_mono R.base (fun uu uu (e:(none:Option (Addr×Option Addr))=_)=>nomatch e) h
theorem leave_call {env:Env} {z₃:Z} {N:Nat} {a:AV} {e:Nat} {Q:Unit->Shared->Prop} {E:Value->Shared->Prop} (C₃:SCx Y ⟨A.deeper env,env,fs⟩ z₃) (G₃:Go Y.B none_ z z₃) (x:ExcF Y.B (flOf env) N z₃ a e) (hN:N<=z₃.N) (hz:z.N<=N)
  (hQ:∀ z₄,Go Y.B none_ z z₄->z₄.k=z₃.k->z₄.σ=z₃.σ->ExcR Y.B z.N z₄ a e->Q () z₄.s):wpAny (model Y.B.prog Y.B.w) (A.deeper env) (leaving env (.ref e)) Q E z₃.s :=
 leave_ok C₃.cx.frames C₃.cx.lie C₃.fr G₃.rep x (fun f q=>q) hN fun z₄ g₄ r1 r2 x₄=>hQ z₄ (G₃.trans g₄ (fun uu q=>q) fun b hb q=>absurd (nA hz q) (Nat.not_le.mpr hb)) r1 r2 (x₄.older hz)
theorem call_fn {lf:Nat->Arguments->Expr->Scope->Bool} {f:Nat} {fn:Fn} {args:List AV} {vs:List Value} {Q X:PostV} {R:Result->Shared->Prop} (HL:Y.B.hb.NoLimit) (FA:FnAt Y.B lf f fn) (hb:∀ ns b,(chkS lf fn.body ns).2 b=true->StsOk Y ns b fn.body)
  (hw:okO (bindV fn args) fun vars=>cond fn.keep (exW Y.cw fn.body vars z.k z.σ (fun uu k' σ'=>Q .none k' σ') Q X)
   (exW Y.cw fn.body vars z.k z.σ (fun uu k' σ'=>Q .none k' (restr z.k σ')) (fun v k' σ'=>Q v k' (restr z.k σ')) (fun v k' σ'=>X v k' (restr z.k σ'))))
  (C:CxC Y.B A fs (Y.n+1) z) (Rz:Rep Y.B z) (hv:Vrs Y.B z args vs)
  (hR:∀ z' a v,Go Y.B none_ z z'->Vr Y.B z' a v->Q a z'.k z'.σ->R (.ok (.ret v)) z'.s) (hX:∀ z' a e,Go Y.B none_ z z'->ExcR Y.B z.N z' a e->X a z'.k z'.σ->R (.error (.ref e)) z'.s) :
  codeAny (model Y.B.prog Y.B.w) A (.call (.ref (Y.B.P.fa f)) ⟨vs,[]⟩) R z.s:=by
 refine eX4 FA.obj fun o fd ds body qA3=>eD11 qA3 fun o1 o2 o3 o4 o5 o6 o7 o8 o9 o10 o11=>?_
 have hin:∀ a o,Y.B.hb.get? a=some o->z.s.heap.get? a=some o:=fun a o e=>Rz.stays _ _ (Rz.base _ _ e)
 refine band o4 fun o4 hbody=>band o4 fun o4 hdl=>headE o4 fun hp hsl hpn hk hnd hco hgen hlen=>okE hw fun vars hvars hw=>onlyO hvars fun hle hset=>band hle fun b1 b2=>?_
 have hds:=vrs_length o10
 have hvl:=vrs_length hv
 have hsz:=slotsAre_len hsl
 have b1:=nC b1
 have b2:=nC b2
 have b3:=nC hdl
 rw [hds,hvl] at hset
 rw [hvl,hsz] at b1
 rw [hvl,hsz,hds] at b2
 rw [hsz,hds] at b3
 rw [hsz] at hset
 refine codeAny_call_function (room C) (hin _ _ o1) o2 hco hgen o3 (o8.keeps hin) ?_
 refine bindArgs_ok hp (o9.imp id fun q=>q.imp fun a q=>q.imp fun items q=>q.imp fun k q=>⟨q.1,hin _ _ q.2.1,q.2.2⟩) b1 b2 b3 hpn ?_
 rw [o5,o6,o7]
 refine setup (vars0:=List.replicate fn.n none) isOwn_e C Rz hk hnd (List.length_replicate.trans hlen.symm) o11 (.inl rfl) (fun j b e=>nomatch ((List.mem_replicate.mp (List.mem_of_getElem? e)).2:some b=none)) hsl hpn hset (vrs_append (vrs_drop (base_vrs Rz o10) _) hv) fun z₂ env S₂ G e1 e2 hown=>⟨noLimit HL S₂.rep,codeAny_func ?_⟩
 have toN:∀ {z'},Go Y.B (OwnB env fd.scope.names) z₂ z'->Go Y.B none_ z z':=fun g=>G.trans g (fun uu q=>q) fun b hb q=>absurd hb (nK.mpr (hown b q))
 have fin:∀ (f:Store->Store),(∀ σ i c,f σ i=some c->σ i=some c)->exW Y.cw fn.body vars z₂.k z₂.σ (fun uu k' σ'=>Q .none k' (f σ')) (fun v k' σ'=>Q v k' (f σ')) (fun v k' σ'=>X v k' (f σ'))->wpAny (model Y.B.prog Y.B.w) (A.deeper env) (execs body env) (fun f s'=>R (.ok (.ret (match f with | .ret v=>v | _=>.none))) s')
   (fun e s'=>wpAny (model Y.B.prog Y.B.w) (A.deeper env) (leaving env e) (fun uu s''=>R (.error e) s'') (fun e' s''=>R (.error e') s'') s') z₂.s:=fun f hf hw =>
  hb _ _ hbody ⟨A.deeper env,env,fs⟩ vars z₂ _ _ _ hw S₂ _ _ (fun z₃ vars₃ fl g₃ C₃ q=>by
   have G₃:=(toN g₃).less (hf z₃.σ)
   cases fl with
   | next=>exact hR (z₃.sg (f z₃.σ)) .none .none G₃ rfl q
   | ret v=>exact q.elim fun a q=>hR (z₃.sg (f z₃.σ)) a v G₃ q.1 q.2
   | _=>exact q.elim) fun z₃ a e g₃ C₃ x hx=>leave_call C₃ (toN g₃) x g₃.size G.size fun z₄ G₄ r1 r2 x₄=>hX (z₄.sg (f z₄.σ)) a e (G₄.less (hf z₄.σ)) (x₄.sg _) (show X a z₄.k (f z₄.σ) by rw [r1,r2];exact hx)
 rw [<- e1,<- e2] at hw
 exact either hw (fun uu hw=>fin id (fun uu uu uu h=>h) hw) fun uu hw=>fin (restr z₂.k) (fun uu=>restr_less) hw
end
end
section
open PySem.SeqAt PySem.MeetsSeq
theorem codeAmong_snoc' {pos:Pos} {a b:Int} {c v:Value} (l:List Value) (h:TriplesOk l) (hv:codeAmong pos (l ++ [rawInt a,rawInt b,c])=some v):codeAmong pos l=some v∨v=c:=by
 fun_induction TriplesOk l with
 | case1 =>
  dsimp only [List.nil_append,codeAmong,rawInt] at hv
  split at hv
  ·obtain rfl:=oJ hv;exact .inr rfl
  ·exact nn hv
 | case2 a' t b' u x rest ih =>
  dsimp only [List.cons_append,codeAmong] at hv ⊢
  split at hv
  ·rename_i hc;rw [if_pos hc];exact .inl hv
  ·rename_i hc;rw [if_neg hc];exact ih h hv
 | case3 l h1 h2=>exact h.elim
structure LamFacts (B:Base) (lf:Nat->Arguments->Expr->Scope->Bool):Prop where
 code:∀ ns c t q,B.P.cdo ns=some (c,t,q)->PySem.W.CodeHd B.hb c t/\B.P.tab t=some q/\mainGlobals≠t/\∃ mg,B.hb.Ns mainGlobals mg/\B.hb.BuiltinsAt mg t
 some:∀ ns,(lamIdx ns).isSome=true->∃ c t q,B.P.cdo ns=.some (c,t,q)
 none:∀ ns,lamIdx ns=.none->B.P.cdo ns=.none
 lm:∀ l a b sc,lf l a b sc=true->∃ lm,B.P.lms l=.some lm/\chkLm lm a b sc=true
noncomputable def frees (l:Names):List Str:=(l.filter (·.2==NameKind.free)).map (·.1)
theorem frees_pos {y:Str×NameKind} {r:Names} (h:(y.2==NameKind.free)=true):frees (y :: r)=y.1 :: frees r:=by
 unfold frees
 rw [List.filter_cons,if_pos h]
 rfl
theorem frees_neg {y:Str×NameKind} {r:Names} (h:(y.2==NameKind.free)=false):frees (y :: r)=frees r:=by
 unfold frees
 rw [List.filter_cons,if_neg (h▸nofun)]
section
variable {B:Base} {z:Z} {env:Env} {ns:Names} {vars:Vars}
theorem Go.lam (R:Rep B z) {t:Addr} {q:Str} (ht:B.P.tab t=some q) {h':Heap} (hk:∀ b o,b≠t->z.s.heap.get? b=some o->h'.get? b=some o) (hz:z.N<=h'.objs.size)
  {ps:Array Value} (e:h'.get? t=some (PySem.W.tabObj ps)) (tr:TriplesOk ps.toList) {c f:Nat} {oc fo:Obj} (hc:h'.get? c=some oc) (hf:h'.get? f=some fo) (c1:z.N<=c) (f1:z.N<=f) (nc:NF oc) (nf:NF fo)
  (cr:∀ g':Heap,(∀ b o,z.g.get? b=some o->g'.get? b=some o)->g'.get? c=some oc->∀ pos v,codeAmong pos ps.toList=some v->g'.CodeRec v q) (tk:Nat) :
  ∃ g',Go B none_ z ((z.put h' tk).gr g')/\g'.get? c=some oc/\g'.get? f=some fo:=by
 have tt:=R.tabs t q ht
 have out:∀ b o,z.g.get? b=some o->b≠t:=fun b o eb q'=>nn (tt.1.symm.trans (q'▸eb))
 have outρ:∀ i p (b:Addr),z.ρ i=some p->At p b->b≠t:=fun i p b e1 e2 q'=>tt.2.1 i p e1 (q'▸e2)
 refine eX1 (grow_g c oc (fun b o eb=>hk b o (out b o eb) (R.stays b o eb)) hc) fun g1 qA0=>eD4 qA0 fun a1 a2 a3 a4=>?_
 refine eX1 (grow_g f fo a2 hf) fun g2 qA1=>eD4 qA1 fun b1 b2 b3 b4=>?_
 have gg:∀ b o,z.g.get? b=some o->g2.get? b=some o:=fun b o eb=>b1 _ _ (a1 _ _ eb)
 have new:∀ (b:Nat) o,g2.get? b=some o->z.g.get? b=some o∨(z.N<=b/\NF o):=fun b o eb=>(b4 b o eb).elim (fun r=>(a4 b o r).elim .inl fun e=>.inr (e▸⟨c1,oJ (a3.symm.trans (e▸r))▸nc⟩)) fun e=>.inr (e▸⟨f1,oJ (b3.symm.trans (e▸eb))▸nf⟩)
 have old:∀ (b:Nat),b < z.N->z.g.get? b=none->g2.get? b=none:=fun b hb' q=>by
  cases q':g2.get? b with
  | none=>rfl
  | some o=>exact (new b o q').elim (fun r=>nomatch q.symm.trans r) fun r=>absurd hb' (nK.mpr r.1)
 refine ⟨g2,⟨⟨fun b o eb=>gg _ _ (R.base _ _ eb),b2,fun b o eb=>(new b o eb).elim (R.noframe b o) (·.2),R.dom,R.has,fun i cc p e1 e2=>(R.cell i cc p e1 e2).move (z':=(z.put h' tk).gr g2) (fun a ha o eo=>hk a o (outρ i p a e2 ha) eo) gg (fun uu uu e=>e),fun i c p a e1 e2 e3=>old a (R.lt i p a e2 e3) (R.out i c p a e1 e2 e3),R.inj,
  fun i p a e1 e2=>nD (R.lt i p a e1 e2) hz,fun b q' eb=>?_⟩,gg,fun b o eb=>(new b o eb).imp id fun q=>.inl q.1,fun uu uu e=>e,fun uu uu e=>.inl e,nB _,fun b o eb nb=>.inl (hk b o (fun q'=>nb (.inr (.inr (q'▸congrArg Option.isSome ht)))) eb),hz,rfl,rfl⟩,b1 _ _ a3,b3⟩
 refine eD3 (R.tabs b q' eb) fun h1 h2 h3=>?_
 refine ⟨h3.elim fun ps' e'=>old b (Heap.lt_size e'.1) h1,h2,?_⟩
 by_cases hbt:b=t
 ·subst hbt
  obtain rfl:=oJ (ht.symm.trans eb)
  exact ⟨ps,e,tr,cr g2 gg (b1 _ _ a3)⟩
 ·exact h3.move gg fun o eo uu=>hk b o hbt eo
theorem clo_caps (F:FrZ B env ns vars z):∀ (l:Names) (i:Nat) (caps:List (Nat×Nat)) (acc cl:List (Str×Addr)) (cs:List AV),capsOf ns i l=some caps->closeAcc env l acc=some cl->caps? vars (caps.map (·.2))=some cs ->
  ∃ fr,cl=fr.reverse ++ acc/\VRc B.P z.g z.ρ cs fr/\fr.map (·.1)=frees l
 | [],i,caps,acc,cl,cs,h1,h2,h3=>by
  obtain rfl:=oJ h1;obtain rfl:=oJ h2;obtain rfl:=oJ h3
  exact ⟨[],rfl,trivial,rfl⟩
 | y :: r,i,caps,acc,cl,cs,h1,h2,h3=>bindE h1 fun caps' hc h1=>by
  unfold closeAcc at h2
  cases hk:y.2==NameKind.free with
  | true =>
   rw [hk] at h1 h2
   refine onlyO h1 fun q1 h1=>mapE h1 fun j q2 h1=>bindE h2 fun c hcell h2=>?_
   subst h1
   refine bindE (h3:Option.bind _ _=some cs) fun a hva h3=>mapE h3 fun cs' q4 h3=>?_
   subst h3
   refine eX1 (clo_caps F r (i+1) caps' _ cl cs' hc h2 q4) fun fr qA3=>eD3 qA3 fun w1 w2 w3=>?_
   refine eX2 (F.cel j y.1 .cell a (slot_get (eq_of_beq q1) q2) (.inl rfl) (getD_some hva.symm)) fun c' v qA4=>eD2 qA4 fun u1 u2=>?_
   obtain rfl:=oJ (hcell.symm.trans u1)
   exact ⟨(y.1,c) :: fr,by rw [w1,List.reverse_cons,List.append_assoc];rfl,⟨⟨v,u2⟩,w2⟩,(congrArg (y.1 :: ·) w3).trans (frees_pos hk).symm⟩
  | false =>
   rw [hk] at h1 h2
   obtain rfl:=oJ h1
   exact (clo_caps F r (i+1) _ acc cl cs hc h2 h3).imp fun fr w=>⟨w.1,w.2.1,w.2.2.trans (frees_neg hk).symm⟩
end
theorem defaultsOf_nil {a:Arguments} (h1:lNil a.defaults=true) (h2:lNil a.kw_defaults=true) (env:Env):defaultsOf a env=([],[]):=by
 obtain ⟨q1,q2,q3,q4,q5,q6,q7⟩:=a
 exact lNil_e (C:=fun q7=>defaultsOf ⟨q1,q2,q3,q4,q5,q6,q7⟩ env=([],[])) h1 (lNil_e (C:=fun q5=>defaultsOf ⟨q1,q2,q3,q4,q5,q6,[]⟩ env=([],[])) h2 rfl)
theorem ev_lam {Y:Sys} {ns:Names} {lf:Nat->Arguments->Expr->Scope->Bool} (LF:LamFacts Y.B lf) {a:Arguments} {b:Expr} {sc:Scope} {p:Pos} {l:Nat} {caps:List (Nat×Nat)} (h:lf l a b sc=true) (hd:∀ env,defaultsOf a env=([],[])) (hcaps:capsOf ns 0 sc.names=some caps) (hi:(lamIdx ns).isSome=true) :
  EvOk Y ns (.Lambda a b sc p) (.lam l (caps.map (·.2))):=fun d z Q X hw K=>okE hw fun cs hcs hw=>by
 refine eX3 (LF.some ns hi) fun c t q hcdo=>?_
 refine eX1 (LF.lm l a b sc h) fun lm qA7=>eD2 qA7 fun hlm hchk=>?_
 obtain ⟨cl,hcl⟩:=closeAcc_some (env:=d.env) (acc:=[]) fun x hx=>(capsOf_at hcaps hx).elim fun m hm=>by
  have hl:m < d.vars.length:=K.fr.len▸(List.getElem?_eq_some_iff.mp hm).1
  cases hv:d.vars[m] with
  | none=>exact (K.fr.opn m x hm ((nA1 hl).trans (congrArg some hv))).elim fun c w=>congrArg Option.isSome w.1
  | some a=>exact (K.fr.cel m x .cell a hm (.inl rfl) ((nA1 hl).trans (congrArg some hv))).elim fun c w=>w.elim fun uu w=>congrArg Option.isSome w.1
 refine eX1 (clo_caps K.fr sc.names 0 caps [] cl cs hcaps hcl hcs) fun fr qA8=>eD3 qA8 fun w1 w2 w3=>?_
 have w1:cl.reverse=fr:=by rw [w1,List.append_nil,List.reverse_reverse]
 obtain ⟨hd1,hd2,hd3,mg,hd4,hd5⟩:=LF.code ns c t q hcdo
 refine eD2 (K.fr.code c t q hcdo) fun f1 f2=>?_
 have hin:∀ b o,Y.B.hb.get? b=some o->z.s.heap.get? b=some o:=fun b o e=>K.rep.stays _ _ (K.rep.base _ _ e)
 obtain ⟨t1,t2,ps,t3,t4,t5⟩:=K.rep.tabs t q hd2
 have hbi:z.s.heap.BuiltinsAt mg t:=by
  refine eX2 hd5 fun bm o qA12=>eD6 qA12 fun r1 r2 r3 r4 r5 r6=>?_
  exact ⟨bm,o,r1,r2,r3,r4,hin _ _ r5,r6⟩
 have clo:∀ {z':Z} {fo:Addr} {cv ctv:Value},Go Y.B none_ z z'->z'.g.get? fo=some { cls:=.type "function",data:=.func (PySem.W.kla_fn "<lambda>" q a b sc cl ((mg "__name__").getD .none) cv ctv) }->z'.g.CodeRec cv q->Vr Y.B z' (.clo l cs) (.ref fo):=fun {z' fo cv ctv} G hf cr =>
  ⟨fo,_,_,rfl,hf,rfl,⟨⟨lm,b,hlm,rfl,hchk⟩,rfl,rfl,rfl,rfl,cr,(congrArg (List.map (·.1)) w1).trans w3⟩,w1.symm▸vrc_mono G.gext G.ρext w2⟩
 intro Qc E hQ hX
 refine PySem.W.kla_eval (hd d.env) ?_
 rw [f2]
 cases hh:codeAmong p ps.toList with
 | some cv =>
  refine PySem.W.kla_makeFunctionHit (closureFor_acc hcl) K.fr.glob (hd4.keeps hin) f1 (hd1.keeps hin) t3 t4 hh hbi fun ctv h' tk hk hz=>?_
  have g₁:=Go.push K.rep hk hz tk
  refine eX1 (Go.frozen g₁.rep { cls:=.type "function",data:=.func (PySem.W.kla_fn "<lambda>" q a b sc cl ((mg "__name__").getD .none) cv ctv) } rfl (nf_of rfl rfl) tk) fun g' qA13=>eD2 qA13 fun g₂ hf=>?_
  have G:=g₁.then g₂
  exact hQ (((z.put h' tk).put _ tk).gr g') _ G ⟨.clo l cs,clo G hf ((t5 p cv hh).keeps G.gext),hw⟩
 | none =>
  refine PySem.W.kla_makeFunction (closureFor_acc hcl) K.fr.glob (hd4.keeps hin) f1 (hd1.keeps hin) t3 t4 hh hd3 hbi fun c' ctv h' tk hx hge hlt hrec htb=>?_
  refine eX4 (id hrec) fun c₂ oc vs tq qA14=>eD4 qA14 fun e2 hoc hdc hvq=>?_
  cases e2
  have zn:z.N<=h'.objs.size:=nU (nF hge hlt)
  have hfo:(h'.push (PySem.W.kla_obj "<lambda>" q a b sc cl ((mg "__name__").getD .none) c' ctv)).get? h'.objs.size=some (PySem.W.kla_obj "<lambda>" q a b sc cl ((mg "__name__").getD .none) c' ctv):=Heap.get?_push_size _ rfl
  obtain ⟨g',G,gc,gf⟩:=Go.lam K.rep hd2 (h':=h'.push (PySem.W.kla_obj "<lambda>" q a b sc cl ((mg "__name__").getD .none) c' ctv)) (fun b o hb e=>Heap.get?_push_of_some _ (hx b o hb e)) (nA zn (push_le _ _)) (Heap.get?_push_of_some _ htb) (by
    rw [Array.toList_append]
    exact TriplesOk_snoc _ _ _ _ t4) (Heap.get?_push_of_some _ hoc) hfo hge zn (fun q=>q.2.elim fun uu q=>q.elim fun uu q=>nomatch hdc.symm.trans q) (nf_of rfl rfl)
   (fun g' hg' hc' pos v hv=>by
    rw [Array.toList_append] at hv
    rcases codeAmong_snoc' ps.toList t4 hv with hv | rfl
    ·exact (t5 pos v hv).keeps hg'
    ·exact ⟨c',oc,vs,tq,rfl,hc',hdc,hvq⟩) tk
  exact hQ ((z.put _ tk).gr g') _ G ⟨.clo l cs,clo G gf ⟨c',oc,vs,tq,rfl,gc,hdc,hvq⟩,hw⟩
end
section
open PySem.SeqAt PySem.MeetsSeq
theorem setAll_len:∀ {is:List Nat} {as:List AV} {vars vars':Vars},setAll is as vars=some vars'->is.length=as.length/\vars'.length=vars.length
 | [],[],_,_,h=>oJ h▸⟨rfl,rfl⟩
 | [],_ :: _,_,_,h=>nn h
 | _ :: _,[],_,_,h=>nn h
 | i :: is,a :: as,vars,vars',h=>(setAll_len (is:=is) (as:=as) h).imp (congrArg (·+1)) fun q=>q.trans List.length_set
theorem frees_at {P:Places} {g:Heap} {ρ:Rho}:∀ (l:Names) (i:Nat) (fr:List (Str×Addr)) (cs:List AV) (vars vars':Vars),fr.map (·.1)=frees l->VRc P g ρ cs fr->setAll (freeSlots i l) cs vars=some vars'->∀ {j:Nat} {b},vars'[j]?=some (some b)->vars[j]?=some (some b)∨∃ d x c v,j=i+d/\l[d]?=some (x,NameKind.free)/\(x,c)∈fr/\g.IsCell c (some v)/\VR P g ρ b v
 | [],i,fr,[],vars,vars',h1,h2,h3,j,b,hj=>.inl (oJ h3▸hj)
 | [],i,fr,_ :: _,vars,vars',h1,h2,h3,j,b,hj=>nn h3
 | y :: r,i,fr,cs,vars,vars',h1,h2,h3,j,b,hj=>by
  have more:∀ {fr':List (Str×Addr)},(∀ p∈fr',p∈fr)->(∃ d x c v,j=i+1+d/\r[d]?=some (x,NameKind.free)/\(x,c)∈fr'/\g.IsCell c (some v)/\VR P g ρ b v)->∃ d x c v,j=i+d/\(y :: r)[d]?=some (x,NameKind.free)/\(x,c)∈fr/\g.IsCell c (some v)/\VR P g ρ b v:=fun hf q =>
   q.elim fun d q=>⟨d+1,q.imp fun x q=>q.imp fun c q=>q.imp fun v q=>⟨q.1.trans (Nat.succ_add_eq_add_succ i d),q.2.1,hf _ q.2.2.1,q.2.2.2⟩⟩
  unfold freeSlots at h3
  cases hk:y.2==NameKind.free with
  | true =>
   rw [hk] at h3
   rw [frees_pos hk] at h1
   cases cs with
   | nil=>exact nn h3
   | cons a cs =>
    cases fr with
    | nil=>exact h2.elim
    | cons c fr =>
     refine eD2 h2 fun qA0x0 h6=>?_;refine eX1 qA0x0 fun v qB0=>eD2 qB0 fun h4 h5=>?_
     refine (frees_at r (i+1) fr cs _ vars' (List.cons.inj h1).2 h6 h3 hj).elim (fun q=>setE q (fun e1 e2=>.inr ⟨0,y.1,c.2,v,e1,congrArg some (Prod.ext rfl (eq_of_beq hk)),(List.cons.inj h1).1▸.head _,h4,oJ e2▸h5⟩) fun uu q=>.inl q) fun q=>.inr (more (fun uu q=>.tail _ q) q)
  | false =>
   rw [hk] at h3
   exact (frees_at r (i+1) fr cs vars vars' (h1.trans (frees_neg hk)) h2 h3 hj).imp id (more fun uu q=>q)
theorem lookup_mem {α:Type} {x:Str} {c:α}:∀ {l:List (Str×α)},(l.map (·.1)).Nodup->(x,c)∈l->l.lookup x=some c
 | [],_,h=>nomatch h
 | y :: r,hn,h=>(nZ.mp h).elim (fun e=>e▸List.lookup_cons_self) fun h=>(lookup_ne fun e=>(nB1.mp hn).1 (List.mem_map.mpr ⟨_,h,e⟩)).trans (lookup_mem (nB1.mp hn).2 h)
theorem noCells:∀ (l:Names),(∀ y∈l,y.2≠NameKind.cell)->∀ (m:Nat) (acc:List (Str×Addr)),cellsFrom m l acc=acc
 | [],_,_,_=>rfl
 | y :: r,hn,m,acc=>by
  unfold cellsFrom
  rw [beq_false_of_ne (hn y (.head _))]
  exact noCells r (fun y hy=>hn y (.tail _ hy)) m acc
theorem isLoc_e:∀ k,isLoc k=true->k=NameKind.local∨k=NameKind.cell:=fun k h=>.inl (eq_of_beq h)
theorem call_clo {Y:Sys} {A:Around} {z:Z} {fs:List Env} {l:Nat} {lm:Lm} {caps args:List AV} {f:Value} {vs:List Value} {Q X:PostV} {R:Result->Shared->Prop} (HL:Y.B.hb.NoLimit) (hcdo:∀ ns,lamIdx ns=none->Y.B.P.cdo ns=none) (hlm:Y.B.P.lms l=some lm)
  (hb:∀ ns b,(chkE (fun uu uu uu uu=>false) lm.body ns).1 b=true->EvOk Y ns b lm.body) (hw:okO (bindL lm caps args) fun vars=>evW Y.cw lm.body vars z.k z.σ Q X)
  (C:CxC Y.B A fs (Y.n+1) z) (Rz:Rep Y.B z) (hf:Vr Y.B z (.clo l caps) f) (hv:Vrs Y.B z args vs)
  (hR:∀ z' a v,Go Y.B none_ z z'->Vr Y.B z' a v->Q a z'.k z'.σ->R (.ok (.ret v)) z'.s) (hX:∀ z' a e,Go Y.B none_ z z'->ExcR Y.B z.N z' a e->X a z'.k z'.σ->R (.error (.ref e)) z'.s) :
  codeAny (model Y.B.prog Y.B.w) A (.call f ⟨vs,[]⟩) R z.s:=by
 refine eX3 hf fun fa o fd qA1=>eD5 qA1 fun eA1x3 f1 f2 f3 f4=>?_;obtain rfl:=eA1x3
 refine eX2 f3.is fun lm' b qA2=>eD3 qA2 fun l1 hbody hc=>?_
 obtain rfl:=oJ (hlm.symm.trans l1)
 refine band hc fun hc hE=>band hc fun hc hcaps=>band hc fun hc hli=>band hc fun hc hnc=>band hc fun hc hdn=>headE hc fun hp hsl hpn hk hnd hco hgen hlen=>okE hw fun vars hvars hw=>bindE hvars fun vars0 hv0 hset=>?_
 have hl:=setAll_len hset
 have hvl:vs.length=fd.params.args.length:=(vrs_length hv).symm.trans (hl.1.symm.trans (slotsAre_len hsl))
 have hcaps:=of_decide_eq_true hcaps
 rw [<- hcaps] at hv0
 have nocell:∀ y∈fd.scope.names,y.2≠NameKind.cell:=fun y hy=>bne_iff_ne.mp (nC1.mp hnc y hy)
 have hcl:(fd.closure.map (·.1)).Nodup:=by
  have:(fd.closure.reverse.map (·.1)).Nodup:=f3.names▸List.Nodup.sublist (List.Sublist.map (fun x:Str×NameKind=>x.1) List.filter_sublist) hnd
  rw [List.map_reverse] at this
  exact (List.pairwise_reverse.mp this).imp fun h=>Ne.symm h
 refine PySem.W.kla_callFunE (room C) (Rz.stays _ _ f1) f2 hco hgen hbody (f3.code.keeps Rz.stays) ?_
 refine bindArgs_ok (ds:=[]) hp (.inl ⟨f3.dfl,rfl⟩) (nG hvl) (nG (Nat.sub_eq_zero_of_le (nG hvl.symm))) (nV _) hpn ?_
 rw [f3.glob,f3.blt,List.drop_nil,List.append_nil]
 refine setup (vars0:=vars0) isLoc_e C Rz hk hnd ((setAll_len hv0).2.trans (List.length_replicate.trans hlen.symm)) (fun c t q e=>nn ((hcdo _ (Option.isNone_iff_eq_none.mp hli)).symm.trans e)) (.inr fun i x e=>nocell _ (List.mem_of_getElem? e) rfl) (fun j b hj=>?_) hsl hpn hset hv fun z₂ env S₂ G e1 e2 hown=>⟨noLimit HL S₂.rep,PySem.W.kla_codeExpr ?_⟩
 ·refine (frees_at fd.scope.names 0 fd.closure.reverse caps _ vars0 f3.names f4 hv0 hj).elim (fun q=>nomatch ((List.mem_replicate.mp (List.mem_of_getElem? q)).2:some b=none)) fun q=>?_
  refine eX4 q fun d x c v qA3=>eD5 qA3 fun w1 w2 w3 w4 w5=>?_
  obtain rfl:=w1.trans (Nat.zero_add d)
  exact ⟨x,c,v,w2,(congrArg (·.lookup x) (noCells _ nocell _ _)).trans (lookup_mem hcl (List.mem_reverse.mp w3)),w4,w5⟩
 ·rw [<- e1,<- e2] at hw
  exact hb _ _ hE (Bl.ar ⟨A.deeper env,env,fs⟩ vars) z₂ Q X hw S₂.ex _ _ (fun z₃ v g₃ q=>q.elim fun a q=>hR z₃ a v (G.then g₃) q.1 q.2) fun z₃ a e g₃ x hx=>leave_call (S₂.x.go g₃) (G.then g₃) (x.le (nB _) fun f q=>.inl q) g₃.size G.size fun z₄ G₄ r1 r2 x₄=>hX z₄ a e G₄ x₄ (by rw [r1,r2];exact hx)
end
section
open PySem.SeqAt PySem.MeetsSeq
open PySem.Builtin PySem.Builtin.ObjectAttr
abbrev excTail:List Value:=[.type "Exception",.type "BaseException",.type "object"]
section
variable {prog:Program} {w:World} {A:Around} {E:Value->Shared->Prop} {h:Heap} {g:Array GenState} {d:Drawn} {t:Nat} {os:OsState}
variable {nm q:Str} {C N D:Addr} {bs:List Value} {sn:List Str} {sub:List Value} {ab:Bool} {col:Option Bool} {dd:Option Addr} {k0 k1 k2 k3 k5:Option Value} {K:Frag}
abbrev psObj (nm q:Str) (C N D:Addr) (bs:List Value) (sn:List Str) (sub:List Value) (ab:Bool) (col:Option Bool) (dd:Option Addr) (k0 k1 k2 k3 k5:Option Value):Obj :=
 excClassObj nm q C N bs (.ref D :: excTail) true sn sub ab col dd k0 k1 k2 k3 k5 "Exception.__new__"
theorem ps_has {X:String} (h:excTail.contains (.type X)=true):(Value.ref C :: Value.ref D :: excTail).contains (.type X)=true:=by
 rw [List.contains_cons,List.contains_cons,h,Bool.or_true,Bool.or_true]
theorem ps_not {X:String} (h:excTail.contains (.type X)=false):(Value.ref C :: Value.ref D :: excTail).contains (.type X)=false:=by
 rw [List.contains_cons,List.contains_cons,h];rfl
theorem ps_check_new {M:Model} {rest:List Value} {Q:Unit->Shared->Prop} (hC:h.get? C=some (psObj nm q C N D bs sn sub ab col dd k0 k1 k2 k3 k5)) (hq:Q () ⟨h,g,d,t,os⟩) :
  wpAny M A (checkBuiltinCall "Exception.__new__" ⟨.ref C :: rest,[]⟩) Q E ⟨h,g,d,t,os⟩:=by
 have F:=PySem.F.excBase_Exception
 have hcont:=ps_has (C:=C) (D:=D) F.hasB
 have hstar:=F.noStar
 simp only [checkBuiltinCall,F.newKind,F.newSplit,F.newRow]
 repeat (first | refine wpAny_loadPart_at hC ?_ | (refine wpAny_isSubtype_exc hC ?_;rw [hcont]) | refine wpAny_staticBase_exc hC ?_ | refine wpAny_madeBy_exc hC ?_ | simp only [bne_self_eq_false,Bool.false_eq_true,if_false] | wp_step)
 exact hq
theorem ps_new {R:Result->Shared->Prop} {rest:List Value} (hC:h.get? C=some (psObj nm q C N D bs sn sub ab col dd k0 k1 k2 k3 k5))
  (hq:R (.ok (.ret (.ref (h.objs.size+1)))) ⟨(h.push { cls:=.type "tuple",data:=.seq rest.toArray }).push
   { cls:=.ref C,data:=.fields #[.ref h.objs.size,.none,.none,.none,.bool false,.none] },g,d,t,os⟩) (hrest:rest.length<=sizeLine) :
  codeAny (model prog w) A (.builtin "Exception.__new__" ⟨.ref C :: rest,[]⟩) R ⟨h,g,d,t,os⟩:=by
 have F:=PySem.F.excBase_Exception
 have hends:=F.ends
 have hcB:=ps_has (C:=C) (D:=D) F.hasB
 have hcA:=ps_not (C:=C) (D:=D) F.noAttr
 have hcN:=ps_not (C:=C) (D:=D) F.noName
 refine codeAny_builtinAt F.entry ?_
 skip
 refine PySem.wpAt_bind ?_
 skip
 refine PySem.wpAt_bind (PySem.wpAt_stack fun p below=>PySem.wpAt_of_wpAny ?_)
 wp_walk
 refine PySem.wpAt_of_wpAny ?_
 rw [F.owner]
 repeat (first | with_reducible refine wpAny_madeHere_exc F.canon hC ?_ | with_reducible refine wpAny_loadPart_at hC ?_ | (with_reducible refine wpAny_isSubtype_exc hC ?_;first | rw [hcB] | rw [hcA] | rw [hcN]) | wp_step)
 skip
 rw [Heap.size_push]
 exact hq
theorem ps_type_call {rest:List Value} {fI:Addr} {Q:Fin->Shared->Prop} (X:K.In h)
  (hC:h.get? C=some (psObj nm q C N D bs sn sub ab col dd k0 k1 k2 k3 k5)) (hi:findIn K (.ref C) "__init__"=some (some (.ref fI))) (hf:typeIn K (.ref fI)=some (.type "function"))
  (hq:∀ h' e,Heap.MadeExcOf h h' e (.ref C) rest->h.objs.size<=e->h'.objs.size=h.objs.size+2 ->
   wpAny (model prog w) A (call (.ref fI) (.ref e :: rest)) (fun r s'=>r=.none/\Q (.done (.ret (.ref e))) s') E ⟨h',g,d,t,os⟩) (hrest:rest.length<=sizeLine) :
  wpAny (model prog w) A (Builtin.«type.__call__» ⟨.ref C :: rest,[]⟩) Q E ⟨h,g,d,t,os⟩:=by
 have F:=PySem.F.excBase_Exception
 repeat (first | with_reducible refine wpAny_loadPart_at hC ?_ | with_reducible refine wpAny_madeBy_exc hC ?_ | wp_step)
 refine codeAny_call_builtin_code (Code.quiet_builtin _ F.quiet) (ps_check_new hC ?_)
 refine ps_new hC ?_ hrest
 skip
 have keep:∀ b o,h.get? b=some o->((h.push { cls:=.type "tuple",data:=.seq rest.toArray }).push { cls:=.ref C,data:=.fields #[.ref h.objs.size,.none,.none,.none,.bool false,.none] }).get? b=some o:=fun b o e=>Heap.get?_push_of_some _ (Heap.get?_push_of_some _ e)
 have X₁:=X.keeps keep
 have hC₁:=keep _ _ hC
 have hget:((h.push { cls:=.type "tuple",data:=.seq rest.toArray }).push
   { cls:=.ref C,data:=.fields #[.ref h.objs.size,.none,.none,.none,.bool false,.none] }).get? (h.objs.size+1)=some
   { cls:=.ref C,data:=.fields #[.ref h.objs.size,.none,.none,.none,.bool false,.none] }:=by heap_get
 have hcC:(Value.ref C :: Value.ref D :: excTail).contains (.ref C)=true:=by rw [List.contains_cons,beq_self_eq_true,Bool.true_or]
 skip
 repeat (first | with_reducible refine wpAny_loadPart_at hget ?_ | (with_reducible refine wpAny_isSubtype_exc hC₁ ?_;rw [hcC]) | wp_step)
 skip
 refine (looks_findIn (M:=model prog w) X₁ hi).here ?_
 refine nG1 (nE1 ?_)
 refine (bind_fn X₁ _ hf).here ?_
 refine nE1 (wpAny_mono (hq _ (h.objs.size+1) ⟨keep,Heap.get?_none_of_le (Nat.le_succ _),h.objs.size,hget,Heap.get?_none_of_le (nB _),?_⟩ (Nat.le_succ _) (by rw [Heap.size_push,Heap.size_push])) (fun r s' hr=>?_) fun uu uu x=>x)
 ·exact Heap.get?_push_of_some _ (Heap.get?_push_at rfl rfl)
 ·obtain ⟨rfl,hQ⟩:=hr
  wp_walk
  exact hQ
theorem ps_call {rest:List Value} {fI:Addr} {Q:Value->Shared->Prop} (X:K.In h)
  (hC:h.get? C=some (psObj nm q C N D bs sn sub ab col dd k0 k1 k2 k3 k5)) (hi:findIn K (.ref C) "__init__"=some (some (.ref fI))) (hf:typeIn K (.ref fI)=some (.type "function"))
  (hq:∀ h' e,Heap.MadeExcOf h h' e (.ref C) rest->h.objs.size<=e->h'.objs.size=h.objs.size+2 ->
   wpAny (model prog w) (A.under (.builtin "type.__call__" ⟨.ref C :: rest,[]⟩)) (call (.ref fI) (.ref e :: rest)) (fun r s'=>r=.none/\Q (.ref e) s') E ⟨h',g,d,t,os⟩) (hrest:rest.length<=sizeLine) :
  wpAny (model prog w) A (call (.ref C) rest) Q E ⟨h,g,d,t,os⟩:=by
 have f1:=tc_lookup
 have f2:=tc_bind (.ref C)
 have hT:(⟨h,g,d,t,os⟩:Shared).TypeIs (.ref C) "type":=⟨_,hC,rfl⟩
 refine wpAny_call (codeAny_of_tree ?_)
 skip
 repeat (any_goals (first | assumption | with_reducible refine wpAny_loadPart_at hC ?_ | wp_step))
 refine ⟨rfl,?_⟩
 refine codeAny_call_builtin_at (Code.quiet_builtin _ (by decide +kernel)) entry_typeCall (wpAny_check_type_call_sub hC (ps_type_call X hC hi hf (fun h' e hm h1 h2=>?_) hrest))
 exact hq h' e hm h1 h2
end
end
section
open PySem.SeqAt PySem.MeetsSeq
open PySem.Builtin PySem.Builtin.ObjectAttr
structure ExcFacts (B:Base):Prop where
 cls:∃ nm q N D bs sn sub ab col dd k0 k1 k2 k3 k5,B.K.lookup (B.P.ca 0)=some (psObj nm q (B.P.ca 0) N D bs sn sub ab col dd k0 k1 k2 k3 k5)
 init:findIn B.K (.ref (B.P.ca 0)) "__init__"=some (some (.ref (B.P.fa 45)))
 set:findIn B.K (.ref (B.P.ca 0)) "__setattr__"=some (some (.builtin "object.__setattr__"))
 get:findIn B.K (.ref (B.P.ca 0)) "__getattribute__"=some (some (.builtin "BaseException.__getattribute__"))
 getattr:findIn B.K (.ref (B.P.ca 0)) "__getattr__"=some none
 told:findIn B.K (.ref (B.P.ca 0)) "told"=some none
 tyf:typeIn B.K (.ref (B.P.fa 45))=some (.type "function")
 keep:keepIn B.K (.ref (B.P.ca 0))=true
 fn:∃ o fd q1 q2 a1 a2 dd p1 p2 p3 p4 d,B.hb.get? (B.P.fa 45)=some o/\o.data=.func fd/\fd.params=⟨[],[⟨"self",a1,q1⟩,⟨"told",a2,q2⟩],none,[],[],none,dd⟩/\fd.body=.stmts [.Assign [.Attribute (.Name "self" p1) "told" p2] (.Name "told" p3) p4] /\
  fd.scope.names=[(("self":Str),NameKind.local),(("told":Str),NameKind.local)]/\fd.scope.kind=.function/\fd.scope.isCoroutine=false/\fd.scope.isGenerator=false/\fd.closure=[]/\B.hb.CodeRec fd.code fd.qualname/\DfltsAt B.hb fd.defaults [d]
section
variable {prog:Program} {w:World} {A:Around} {s:Shared} {K:Frag} {C D x:Addr} {R:Result->Shared->Prop}
theorem osa_exc {ox:Obj} {od:Option Obj} {name:Str} {tk:Tok} {v:Value} {cd:ClassData} (X:K.In s.heap) (I:InstAt s.heap x ox C od) (hc:clsIn K C=some cd) (hm:cd.mro=.ref C :: .ref D :: excTail) (ht:findIn K (.ref C) name=some none)
  (h:wpAny (model prog w) A.in1 (storeInOwnDict (.ref x) (.ref C) (.str name tk) name v false)
   (fun fin s'=>match fin with | .done f=>R (.ok f) s' | .again c'=>c'.quiet=true/\codeAny (model prog w) A c' R s') (fun e s'=>R (.error e) s') s) :
  codeAny (model prog w) A (.call (.builtin "object.__setattr__") ⟨[.ref x,.str name tk,v],[]⟩) R s:=by
 have SF:=PySem.F.store_object
 have SE:=PySem.F.store_Exception
 have sub:Looks (model prog w) s.heap (isInstance (.ref x) (.type "object")) true:=I.type.andThen (looks_mroIn X (by unfold mroIn;rw [hc,Option.bind_some,hm];rfl))
 refine codeAny_call_builtin SF.slot.plain SF.entry (@check_slot (model prog w) _ _ s "object.__setattr__" "object" "__setattr__" (.ref x) [.str name tk,v] [] _ SF.kind SF.split sub (SF.args (.ref x) (.str name tk) v) ?_)
 have hmr:Looks (model prog w) s.heap (mroOf (.ref C)) (.ref C :: .ref D :: excTail):=by rw [<- hm];exact (looks_clsIn X hc).andThen .now
 rw [osa_eq,refuse_eq]
 refine nE1 (nE1 (I.type.here (nE1 (hmr.here ?_))))
 rw [refuseLoop_ref,refuseLoop_ref,SE.passes]
 refine nF1 (nE1 (I.type.here (nE1 ((looks_findIn X ht).here ?_))))
 exact nE1 (nF1 h)
theorem store_exc {E:Value->Shared->Prop} {ox:Obj} {vs:Array Value} {name:Str} {v:Value} {cd:ClassData} {Q:Unit->Shared->Prop} (X:K.In s.heap) (hx:s.heap.get? x=some ox) (hcl:ox.cls=.ref C) (hdt:ox.data=.fields vs) (hnd:ox.dict=none) (hc:clsIn K C=some cd) (hhd:cd.hasDict=true) (hm:cd.mro=.ref C :: .ref D :: excTail)
  (hs:findIn K (.ref C) "__setattr__"=some (some (.builtin "object.__setattr__"))) (ht:findIn K (.ref C) name=some none)
  (hQ:∀ h' (d:Nat) tk ox' m oD,(∀ b o,b≠x->s.heap.get? b=some o->h'.get? b=some o)->s.heap.objs.size<=d->s.heap.objs.size<=h'.objs.size->h'.get? x=some ox'->ox'.cls=.ref C->ox'.data=.fields vs->ox'.dict=some d->h'.Ns d m->m name=some v->h'.get? d=some oD->NF oD->Q () { s with heap:=h',toks:=tk }) :
  wpAny (model prog w) A (setAttr (.ref x) name v) Q E s:=by
 have I:InstAt s.heap x ox C none:=⟨hx,hcl,by unfold notCls;rw [hdt],by rw [hnd];trivial⟩
 refine set_plain X I hs (osa_exc (s:={ s with toks:=s.toks+1 }) X I hc hm ht ?_)
 have hxs:x≠s.heap.objs.size:=nH (Heap.lt_size hx)
 obtain ⟨oc,od0,odt,osl⟩:=ox
 skip
 subst hcl hdt hnd
 refine nE1 (nF1 (nE1 (nE1 (wpAny_loadPart (s:={ s with toks:=s.toks+1 }) hx (nE1 ((looks_clsIn X hc).here (s:={ s with toks:=s.toks+1 }) ?_))))))
 rw [hhd]
 skip
 refine nE1 (wpAny_alloc ?_)
 have hx₁:(s.heap.push { cls:=.type "dict",data:=.dict #[] }).get? x=some ⟨.ref C,none,.fields vs,osl⟩:=Heap.get?_push_of_some _ hx
 refine nE1 (wpAny_update hx₁ ?_)
 refine nF1 (a:=some s.heap.objs.size) ?_
 have hgd:=(Heap.get?_update_other (s.heap.push { cls:=.type "dict",data:=.dict #[] }) (fun o=>{ o with dict:=some s.heap.objs.size }) hxs).trans (Heap.get?_push_at rfl rfl)
 have hxx:=Heap.get?_update_self (fun o=>{ o with dict:=some s.heap.objs.size }) hx₁ rfl
 have hsz:((s.heap.push { cls:=.type "dict",data:=.dict #[] }).update x fun o=>{ o with dict:=some s.heap.objs.size }).objs.size=s.heap.objs.size+1:=by rw [Heap.size_after_update,Heap.size_push]
 have keep:∀ b o,b≠x->s.heap.get? b=some o->((s.heap.push { cls:=.type "dict",data:=.dict #[] }).update x fun o=>{ o with dict:=some s.heap.objs.size }).get? b=some o:=fun b o hb e=>(Heap.get?_update_other _ _ (Ne.symm hb)).trans (Heap.get?_push_of_some _ e)
 skip
 skip
 refine nE1 (nF1 (nE1 (nE1 (nE1 (wpAny_askSetting (nF1 (nE1 (wpAny_mkText (nE1 (wpAny_loadPart hgd ?_))))))))))
 dsimp only
 rw [aRefKeyMayBeTheName_at,List.any_toArray,List.any_nil,List.any_toArray,List.any_nil,Bool.and_false,if_neg nofun]
 refine wpAny_updatePart hgd ?_
 generalize (s.heap.push { cls:=.type "dict",data:=.dict #[] }).update x (fun o=>{ o with dict:=some s.heap.objs.size })=H at *
 have eo:∀ hsh tk,Obj.putName name hsh (.str name tk) v (PySem.W.dictOf [] 0)=PySem.W.dictOf [⟨hsh,.str name tk,v⟩] 1:=fun hsh tk=>putName_dict name hsh (.str name tk) v [] 0
 have hd2:∀ hsh tk,(H.update s.heap.objs.size (Obj.putName name hsh (.str name tk) v)).get? s.heap.objs.size=some (PySem.W.dictOf [⟨hsh,.str name tk,v⟩] 1):=fun hsh tk=>by
  rw [<- eo];exact Heap.get?_update_self _ hgd (by rw [eo];rfl)
 refine nE1 (wpAny_lookBehind (hd2 _ _) (pastItsLine_dict (by rw [sizeLine_eq];exact (by decide:1<=16777216+1))) ?_)
 refine nF1 (hQ _ s.heap.objs.size _ _ (fun y=>nsFind #[⟨_,.str name _,v⟩] y) _ (fun b o hb e=>(Heap.get?_update_other _ _ (Nat.ne_of_gt (Heap.lt_size e))).trans (keep b o hb e)) (nB _) ?_ ((Heap.get?_update_other _ _ (Ne.symm hxs)).trans hxx) rfl rfl rfl ⟨_,_,_,hd2 _ _,rfl,fun e he=>?_,fun y=>rfl⟩ ?_ (hd2 _ _) (nf_of rfl rfl))
 ·rw [Heap.size_after_update,hsz];exact Nat.le_succ _
 ·simp only [List.mem_toArray,List.mem_singleton] at he
  subst he;exact ⟨_,_,rfl⟩
 ·simp [nsFind,findBy,Value.isStr]
structure PsMade (h h':Heap) (C:Addr) (e:Nat) (v:Value):Prop where
 keeps:∀ b o,h.get? b=some o->h'.get? b=some o
 size:h.objs.size<=h'.objs.size
 new:h.objs.size<=e
 is:∃ oe vs,∃ d:Nat,∃ m oD,h'.get? e=some oe/\oe.cls=.ref C/\oe.data=.fields vs/\vs[1]?=some .none/\oe.dict=some d/\h.objs.size<=d/\d≠e/\h'.Ns d m/\m "told"=some v/\h'.get? d=some oD/\NF oD
end
section
variable {B:Base} {A:Around}
theorem ps_made (XF:ExcFacts B) (HL:B.hb.NoLimit) (hin:B.K.In B.hb) {s:Shared} (hb:∀ b o,B.hb.get? b=some o->s.heap.get? b=some o) {v:Value} {Q:Value->Shared->Prop} {E:Value->Shared->Prop} (hd:A.depth+2 < recursionLimit)
  (hQ:∀ h' tk e,PsMade s.heap h' (B.P.ca 0) e v->Q (.ref e) { s with heap:=h',toks:=tk }):wpAny (model B.prog B.w) A (call (.ref (B.P.ca 0)) [v]) Q E s:=by
 refine eX15 XF.cls fun nm q N D bs sn sub ab col dd k0 k1 k2 k3 k5 hK=>?_
 have X:B.K.In s.heap:=hin.keeps hb
 have hC:=X _ _ hK
 have hcd:clsIn B.K (B.P.ca 0)=some { name:=nm,bases:=bs,mro:=.ref (B.P.ca 0) :: .ref D :: excTail,ns:=N,qualname:=q,hasDict:=true,slotNames:=sn,subclasses:=sub,abstract:=ab,collection:=col,hasDel:=false }:=by unfold clsIn;rw [hK]
 obtain ⟨h,g,d,t,os⟩:=s
 refine ps_call X hC XF.init XF.tyf (fun h' e hm he hsz=>?_) (line_ok (by decide:1 < 1000))
 refine eX1 hm.there fun tp qA3=>eD3 qA3 fun he' htp uu=>?_
 refine eX12 XF.fn fun o fd q1 q2 a1 a2 dfl p1 p2 p3 p4 dv qA3=>eD11 qA3 fun o1 o2 o3 o4 o5 o6 o7 o8 o9 o10 o11=>?_
 have hin':∀ a o,B.hb.get? a=some o->h'.get? a=some o:=fun a o e=>hm.keeps _ _ (hb _ _ e)
 refine wpAny_call (codeAny_call_function (Nat.lt_of_succ_lt hd) (hin' _ _ o1) o2 o7 o8 o4 (o10.keeps hin') ?_)
 refine bindArgs_ok (ds:=[dv]) o3 (o11.imp id fun ⟨a,items,k,q1,q2,q3⟩=>⟨a,items,k,q1,hin' _ _ q2,q3⟩) (nB 2) (nV _) (by decide:1<=2) (by decide +kernel:[("self":Str),("told":Str)].Nodup) ?_
 skip
 rw [o9]
 refine wpAny_newFunctionEnv (fun x hx=>?_) (fun x hx=>?_) (fun h₂ r1 r2=>?_) o6
 ·rw [o5] at hx
  exact (nZ.mp hx).elim (fun e=>e▸nofun) fun hx=>(List.mem_singleton.mp hx)▸nofun
 ·rw [o5]
  exact (nZ.mp hx).elim (fun e=>e▸rfl) fun hx=>(List.mem_singleton.mp hx)▸rfl
 have hk2:∀ b o,h'.get? b=some o->h₂.get? b=some o:=fun b o eb=>r2.extBut b o (nH (Heap.lt_size eb)) (Heap.get?_push_of_some _ eb)
 have hz2:h'.objs.size<=h₂.objs.size:=nA (push_le _ _) (nG r2.1.symm)
 have hz:h.objs.size<=h'.objs.size:=nA (nP _ 2) (nG hsz.symm)
 refine ⟨HL.elim fun mc n=>⟨mc,n.1.keeps fun b o eb=>hk2 _ _ (hin' _ _ eb),n.2⟩,codeAny_func (wpAny_execs_cons (plainObj_wpAny_Assign_Attribute ?_))⟩
 have kd:∀ {x},fd.scope.names.lookup x=some .local->Env.kindOf (newEnv fd.scope h'.objs.size fd.globals [] (fd.qualname ++ ".<locals>.") (some (B.P.fa 45)) fd.code none fd.builtins) x=some .local:=fun h=>h
 refine wpAny_Name (wpAny_loadName_local o6 (kd (by rw [o5];rfl)) r1 (v:=v) (by rfl) ?_) (by decide +kernel)
 refine wpAny_Name (wpAny_loadName_local o6 (kd (by rw [o5];rfl)) r1 (v:=Value.ref e) (by rfl) ?_) (by decide +kernel)
 have X₂:B.K.In h₂:=X.keeps fun b o eb=>hk2 _ _ (hm.keeps _ _ eb)
 refine store_exc (C:=B.P.ca 0) (D:=D) X₂ (hk2 _ _ he') rfl rfl rfl hcd rfl rfl XF.set XF.told fun h₃ dd tk oe m oD s1 s2 s3 s4 s5 s6 s7 s8 s9 s10 s11=>wpAny_execs_nil ⟨rfl,?_⟩
 have old:∀ b o,h.get? b=some o->b≠e:=fun b o eb q=>absurd (q▸Heap.lt_size eb) (nK.mpr he)
 exact hQ h₃ _ e ⟨fun b o eb=>s1 b o (old b o eb) (hk2 _ _ (hm.keeps _ _ eb)),nA hz (nA hz2 s3),he,oe,_,dd,m,oD,s4,s5,s6,rfl,s7,nA hz (nA hz2 s2),fun q=>nT _ (nD (Heap.lt_size (hk2 _ _ he')) (q▸s2)),s8,s9,s10,s11⟩
end
section
variable {M:Model} {A:Around} {E:Value->Shared->Prop} {env:Env}
variable {nm q:Str} {C N D:Addr} {bs:List Value} {sn:List Str} {sub:List Value} {ab:Bool} {col:Option Bool} {dd:Option Addr} {k0 k1 k2 k3 k5:Option Value}
theorem ps_raise {s:Shared} {x:Sem Value} {Q:Flow->Shared->Prop} (hh:A.handled=none)
  (h:wpAny M A x (fun v s₁=>∃ e oe vs,v=.ref e/\s₁.heap.get? C=some (psObj nm q C N D bs sn sub ab col dd k0 k1 k2 k3 k5) /\
   s₁.heap.get? e=some oe/\oe.cls=.ref C/\oe.data=.fields vs/\vs[1]?=some .none/\E (.ref e) s₁) E s) :
  wpAny M A (raiseStmt env (some x) none) Q E s:=by
 have hcB:(Value.ref C :: Value.ref D :: excTail).contains (.type "BaseException")=true:=ps_has (by decide +kernel)
 skip
 refine nE1 (wpAny_mono h (fun v s₁ h₁=>?_) fun uu uu x=>x)
 refine eX3 h₁ fun e oe vs qA5=>eD7 qA5 fun eA5x3 hC he hc hd h1 hE=>?_;obtain rfl:=eA5x3
 obtain ⟨hp,g,d,tk,os⟩:=s₁
 obtain ⟨c,odd,dt,sl⟩:=oe
 skip
 subst hc hd
 repeat (first | with_reducible refine wpAny_loadPart_at he ?_ | with_reducible refine wpAny_loadPart_at hC ?_ | (with_reducible refine wpAny_isSubtype_exc hC ?_;rw [hcB]) | with_reducible refine wpAny_field he rfl h1 ?_ | wp_step)
 exact wpAny_raiseNew_none hh hE
end
theorem made_go {B:Base} {z:Z} {h':Heap} {tk e:Nat} {a:AV} {v:Value} (R:Rep B z) (hv:Vr B z a v) (PM:PsMade z.s.heap h' (B.P.ca 0) e v):∃ g',Go B none_ z ((z.put h' tk).gr g')/\ExcR B z.N ((z.put h' tk).gr g') a e:=by
 refine eX5 PM.is fun oe vs d m oD qA8=>eD11 qA8 fun h1 h2 h3 h4 h5 h6 h7 h8 h9 h10 h11=>?_
 have g₁:=Go.push R PM.keeps PM.size tk
 have P:=(Priv.new R h6).put h' tk
 refine eX1 (Go.freeze g₁.rep P.tab (fun i c p uu e=>P.ρ i p e) h10 h11) fun g' qA9=>eD2 qA9 fun g₂ hd=>?_
 have G:=g₁.trans g₂ (fun uu q=>q) fun b hb q=>absurd hb (nK.mpr (q▸h6))
 refine ⟨g',G,⟨oe,vs,d,m,v,h1,h2,h3,h5,?_,h9,G.vr hv,.inl h4⟩,((Priv.new R PM.new).put h' tk).step (Heap.lt_size h1) g₂ fun q=>h7 q.symm,PM.new⟩
 refine eX3 h8 fun o' es' ep' qA10=>eD2 qA10 fun q1 q=>?_
 obtain rfl:=oJ (h10.symm.trans q1)
 exact ⟨oD,es',ep',hd,q⟩
theorem st_raise {Y:Sys} {ns:Names} (KT:Kit Y) (XF:ExcFacts Y.B) (HL:Y.B.hb.NoLimit) {x:Str} {np cpos pos:Pos} {e0:Expr} {e:E} (hg:isGlb ns x=true) (hx:gname 45=x) (he:EvOk Y ns e0 e) (ht:TrOk Y ns e0 e) (hst:isStarred e0=false) :
  StOk Y ns (.Raise (some (.Call (.Name x np) [e0] [] cpos)) none pos) (.raise e):=fun b vars z N R X hw C Qc E hQ hX=>by
 refine eX15 XF.cls fun nm q N' D bs sn sub ab col dd k0 k1 k2 k3 k5 hK=>?_
 rw [arm_exec_Raise]
 refine nE1 (wpAny_standAt (ps_raise (nm:=nm) (q:=q) (C:=Y.B.P.ca 0) (N:=N') (D:=D) (bs:=bs) (sn:=sn) (sub:=sub) (ab:=ab) (col:=col) (dd:=dd) (k0:=k0) (k1:=k1) (k2:=k2) (k3:=k3) (k5:=k5) C.x.cx.handled ?_))
 skip
 refine nE1 ?_
 skip
 have hall:AllOk Y ns [e0] (.cons e .nil):=⟨e,.nil,rfl,he,ht,hst,rfl⟩
 have hev:EvOk Y ns (.Name x np) (.glb 45):=ev_glb KT.f0.glob hg (by decide) hx (hx▸by decide +kernel)
 refine nE1 (hev (b.ar vars) z (fun a k σ=>a=.cls 0/\evW Y.cw e vars k σ X f3) f3 ⟨rfl,hw⟩ C.ex _ E (fun z₀ v g₀ q=>q.elim fun a q=>?_) fun uu uu uu uu uu x=>x.elim)
 refine eD3 q fun hv eA12x1 hw=>?_;obtain rfl:=eA12x1
 obtain rfl:=hv
 refine callWith_of (P:=fun h=>KeepOk (model Y.B.prog Y.B.w) h (.ref (Y.B.P.ca 0))) ((Bool.or_false _).trans hall.star) (fun h x=>x) (evalArgs_any hall.star ?_)
 refine hall.evs (b.ar vars) z₀ (fun w k σ=>asTup w fun vs=>oneP vs fun a=>X a k σ) f3 hw (C.go g₀).ex cpos _ E (fun z₁ vs g₁ q=>q.elim fun as q=>?_) fun uu uu uu uu uu x=>x.elim
 refine oneE (C:=fun as=>Vrs Y.B z₁ as vs->_) q.2 (fun a hxa hvs=>?_) q.1
 cases vs with
 | nil=>exact hvs.elim
 | cons v vs =>
  cases vs with
  | cons=>exact hvs.2.elim
  | nil =>
   refine ⟨keeps_K XF.keep z₁.s.heap (KT.cls.here g₁.rep),?_⟩
   refine ps_made XF HL KT.cls.inK (fun b o e=>g₁.rep.stays _ _ (g₁.rep.base _ _ e)) (nF (nA (nM (by decide:2<=10) _) (nA (Nat.add_le_add_right (nP _ _) 10) C.x.cx.depth)) (by decide)) fun h' tk e PM=>?_
   refine eX1 (made_go (tk:=tk) g₁.rep hvs.1 PM) fun g' qA13=>eD2 qA13 fun g₂ XR=>?_
   refine nE1 (wpAny_standAt (nF1 ?_))
   refine eX5 PM.is fun oe vs' d m oD qA14=>eD5 qA14 fun h1 h2 h3 h4 uu=>?_
   have G:=(g₀.then g₁).then g₂
   exact ⟨e,oe,vs',rfl,PM.keeps _ _ (KT.cls.here g₁.rep _ _ hK),h1,h2,h3,h4,hX ((z₁.put h' tk).gr g') a e G.of (C.x.go G) (XR.le (g₀.then g₁).size fun f q=>.inl q) hxa⟩
end
section
open PySem.SeqAt PySem.MeetsSeq
open PySem.Builtin PySem.Builtin.ObjectAttr
theorem nsDel_cls {M:Model} {A:Around} {a:Addr} {m:Str->Option Value} {name:Str} {Q:Bool->Shared->Prop} {E:Value->Shared->Prop} {s:Shared} (hn:s.heap.Ns a m) (hm:(m name).isSome=true)
  (h:∀ h' v,h'.Ns a (fun x=>if x=name then v else m x)->Heap.SameBut a s.heap h'->(FO s.heap a->FO h' a)->Q true { s with heap:=h' }):wpAny M A (nsDel a name) Q E s:=fun Γ p hΓ=>by
 have key:=wpAny_nsDel_keeps (M:=M) (A:=A) (E:=E) (Q:=fun b s'=>b=(m name).isSome/\∃ h' v,h'.Ns a (fun x=>if x=name then v else m x)/\Heap.SameBut a s.heap h'/\s'={ s with heap:=h' }) hn (fun h' v x y=>⟨rfl,h',v,x,y,rfl⟩) Γ p hΓ
 refine eX3 (id hn) fun o es ep qA0=>eD4 qA0 fun ho hd hk hmm=>?_
 have hhas:nsHas name o=Pure.pure true:=by
  have hsome:(m name).isSome=es.any (·.key.isStr name):=by
   rw [<- hmm name];simp only [nsFind,findBy,Option.isSome_map]
   rw [Bool.eq_iff_iff];simp only [Array.find?_isSome,Array.any_eq_true]
   exact ⟨fun ⟨x,hx,hp⟩=>by obtain ⟨i,hi,rfl⟩:=Array.mem_iff_getElem.mp hx;exact ⟨i,hi,hp⟩,fun ⟨i,hi,hp⟩=>⟨_,Array.getElem_mem hi,hp⟩⟩
  rw [nsHas_eq];unfold nsHasByArray;rw [hd]
  show (if (es.any fun x=>x.key.isStr name)=true then _ else _)=_
  rw [if_pos (hsome.symm.trans hm)]
 unfold nsDel at key ⊢
 simp only [Sem.wp_bind'] at key ⊢
 rw [Sem.wp_loadPart_of M Γ _ p s (o:=o) _ ho] at key ⊢
 rw [hhas] at key ⊢
 simp only [Sem.wp_pure',if_true,Sem.wp_bind',Sem.wp_cmd_updatePart] at key ⊢
 obtain ⟨h1,h2,h',v,n1,n2,e⟩:=key
 refine ⟨h1,?_⟩
 have eh:=congrArg Shared.heap e
 dsimp only at eh
 have:=h h' v n1 n2 fun fo=>fo.elim fun o1 q=>?_
 ·rw [<- eh] at this;exact this
 ·obtain rfl:=oJ (ho.symm.trans q.1)
  refine eX3 n1 fun o2 es2 ep2 qA3=>eD3 qA3 fun q1 q2 uu=>?_
  refine ⟨o2,q1,fun nf=>q.2 fun c=>nf ⟨?_,es2,ep2,q2⟩⟩
  rw [<- eh] at q1
  have hf:(Obj.dropName name o).isFreed=false/\(Obj.dropName name o).cls=o.cls:=by
   obtain ⟨c,d,dt,sl⟩:=o
   subst hd
   rw [Obj.dropName_eq]
   unfold Obj.dropNameByArray
   dsimp only
   cases Array.findIdx? (fun x=>x.key.isStr name) es <;> exact ⟨rfl,rfl⟩
  rw [Heap.get?_update_self _ ho hf.1] at q1
  obtain rfl:=oJ q1
  exact hf.2.trans c.1
theorem ns_fun {h:Heap} {a:Addr} {m m':Str->Option Value} (x:h.Ns a m) (y:h.Ns a m'):m=m':=by
 refine eX3 x fun o es ep qA5=>eD4 qA5 fun w1 w2 uu w4=>?_
 refine eX3 y fun o' es' ep' qA6=>eD4 qA6 fun u1 u2 uu u4=>?_
 obtain rfl:=oJ (w1.symm.trans u1)
 cases w2.symm.trans u2
 exact funext fun k=>(w4 k).symm.trans (u4 k)
section
variable {B:Base} {A:Around} {z:Z} {env:Env} {ns:Names} {vars:Vars} {i:Nat} {x:Str}
theorem FrZ.raw {h':Heap} {m m':Str->Option Value} (R:Rep B z) (F:FrZ B env ns vars z) (hi:ns[i]?=some (x,NameKind.local)) (hm:z.s.heap.Ns env.locals m) (hn:h'.Ns env.locals m') (ho:∀ y,y≠x->m' y=m y)
  (hs:Heap.SameBut env.locals z.s.heap h') (hc:FO z.s.heap env.locals->FO h' env.locals) (tk:Nat):Go B (OwnB env ns) z (z.put h' tk)/\FrZ B env ns (vars.set i none) (z.put h' tk):=by
 refine eX1 F.loc fun m₂ qA7=>eD2 qA7 fun hm₂ hl=>?_
 obtain rfl:=ns_fun hm hm₂
 have kd:∀ {j y} {k':NameKind},ns[j]?=some (y,k')->k'≠NameKind.local->j=i->False:=fun e n q=>n (congrArg (·.2) (oJ ((q▸e.symm:_=ns[i]?).trans hi)))
 have own:∀ {b},Own env ns (vars.set i none) b->Own env ns vars b:=fun h=>h.imp id fun h=>h.imp fun j h=>h.imp fun y h=>⟨h.1,setE h.2.1 (fun q uu=>(kd (k':=.cell) h.1 nofun q).elim) fun uu q=>q,h.2.2⟩
 have lt:∀ {b:Nat},b < z.N->b < h'.objs.size:=fun h=>nD h (nG hs.1.symm)
 exact ⟨(Go.mine R (Same.of_but hs) (fun b hb uu=>hb▸(F.out _ (.inl rfl)).1) (nG hs.1.symm) tk).mono fun b hb=>.inl hb,F.kind,F.glob,F.blt,F.kinds,List.length_set.trans F.len,F.nodup,
  ⟨m',hn,fun j y b e1 e2=>setE e2 (fun uu e=>nn e.symm) fun q e=>(hl j y b e1 e).imp fun u r=>⟨(ho y fun e=>q (nodup_at F.nodup hi (e▸e1))).trans r.1,r.2⟩⟩,
  fun j y k b e1 e2 e3=>F.cel j y k b e1 e2 (setE e3 (fun uu e=>nn e.symm) fun uu e=>e),fun j y e1 e2=>(F.opn j y e1 (setE e2 (fun q uu=>(kd (k':=.cell) e1 nofun q).elim) fun uu e=>e)).imp fun c r=>⟨r.1,r.2.imp fun o r'=>⟨(hs.2 c (F.apart j y c e1 r.1)).trans r'.1,r'.2⟩⟩,
  fun b hb=>⟨(F.out b (own hb)).1.put _ _,lt (F.out b (own hb)).2⟩,F.code,F.apart,F.cinj,fun L hL=>⟨lt (F.lcls L hL).1,fun e=>e.symm▸hc (e▸(F.lcls L hL).2 e)⟩⟩
theorem set_raw {v:Value} {Q:Unit->Shared->Prop} {E:Value->Shared->Prop} (R:Rep B z) (F:FrZ B env ns vars z) (hi:ns[i]?=some (x,NameKind.local))
  (hQ:∀ h' m,Go B (OwnB env ns) z (z.put h' (z.s.toks+1))->FrZ B env ns (vars.set i none) (z.put h' (z.s.toks+1))->h'.Ns env.locals m->m x=some v->(∀ b,b≠env.locals->h'.get? b=z.s.heap.get? b)->Q () (z.put h' (z.s.toks+1)).s):wpAny (model B.prog B.w) A (storeName env x v) Q E z.s:=by
 refine eX1 F.loc fun m qA8=>eD2 qA8 fun hm hl=>?_
 rw [storeName_local ((F.kinds i x _ hi).resolve_right fun q=>nomatch q.1) (by rw [F.kind];rfl)]
 exact nsSet_cls hm fun h' q1 q2 qc=>(FrZ.raw R F hi hm q1 (fun y hy=>if_neg hy) q2 qc _).elim fun G F'=>hQ h' _ G F' q1 (if_pos rfl) q2.2
theorem name_goes {p:Pos} {Q:Unit->Shared->Prop} {E:Value->Shared->Prop} (R:Rep B z) (F:FrZ B env ns vars z) (hi:ns[i]?=some (x,NameKind.local))
  (hQ:∀ z',Go B (OwnB env ns) z z'->z'.k=z.k->z'.σ=z.σ->FrZ B env ns (vars.set i none) z'->Q () z'.s):wpAny (model B.prog B.w) A (do bindName env x .none;unbindBehindTheSuite env x p) Q E z.s:=by
 refine nE1 (wpAny_bindName (set_raw R F hi fun h₁ m g₁ F₁ hm hx uu=>?_))
 skip
 refine wpAny_onRaise ?_
 skip
 refine nE1 (wpAny_point (nE1 ?_))
 unfold deleteName
 have hk:env.kindOf x=some .local:=(F.kinds i x _ hi).resolve_right fun q=>nomatch q.1
 have hp:(env.scope.kind==.class||(env.scope.kind==.module&&env.locals != env.globals))=false:=by rw [F.kind];rfl
 rw [hk,hp]
 dsimp only
 rw [if_neg (by decide)]
 refine nE1 (nsDel_cls hm (by rw [hx];rfl) fun h' v q1 q2 qc=>?_)
 rw [if_neg nofun]
 refine nF1 (wpAny_point ?_)
 refine eD2 (FrZ.raw g₁.rep F₁ hi hm q1 (fun y hy=>if_neg hy) q2 qc (z.s.toks+1)) fun G F'=>?_
 rw [List.set_set] at F'
 exact hQ ((z.put h₁ (z.s.toks+1)).put h' (z.s.toks+1)) (g₁.then G) rfl rfl F'
end
theorem lookIn_ns {h:Heap} {d:Addr} {o:Obj} {m:Str->Option Value} {name:Str} {v:Value} (hn:h.Ns d m) (ho:h.get? d=some o) (hm:m name=some v):lookIn name o=some (some v):=by
 refine eX3 hn fun o' es ep qA10=>eD4 qA10 fun e1 e2 uu e4=>?_
 obtain rfl:=oJ (ho.symm.trans e1)
 obtain ⟨c,dd,dt,sl⟩:=o
 obtain rfl:=e2
 have:=(e4 name).trans hm
 unfold nsFind findBy at this
 unfold lookIn
 dsimp only
 rw [<- Array.find?_toList] at this
 cases q:es.toList.find? (fun e=>e.key.isStr name) with
 | none=>rw [q] at this;exact nn this
 | some e=>rw [q] at this;exact congrArg some this
section
variable {prog:Program} {w:World} {A:Around} {E:Value->Shared->Prop} {s:Shared} {K:Frag} {C D x d:Addr}
theorem get_exc {ox od:Obj} {vs:Array Value} {name:Str} {v:Value} {cd:ClassData} {expr:Bool} {Q:Value->Shared->Prop} (X:K.In s.heap) (hx:s.heap.get? x=some ox) (hcl:ox.cls=.ref C) (hdt:ox.data=.fields vs) (hdd:ox.dict=some d) (hod:s.heap.get? d=some od) (hl:lookIn name od=some (some v))
  (hc:clsIn K C=some cd) (hhd:cd.hasDict=true) (hm:cd.mro=.ref C :: .ref D :: excTail) (hg:findIn K (.ref C) "__getattribute__"=some (some (.builtin "BaseException.__getattribute__"))) (hg2:findIn K (.ref C) "__getattr__"=some none) (ht:findIn K (.ref C) name=some none)
  (hh:handedIn v=true) (h:Q v { s with toks:=s.toks+1 }):wpAny (model prog w) A (getAttr (.ref x) name expr) Q E s:=by
 have I:InstAt s.heap x ox C (some od):=⟨hx,hcl,by unfold notCls;rw [hdt],by rw [hdd];exact hod⟩
 have FB:=PySem.F.attrBase_Exception
 have f3:=FB.ga.bind (.ref x)
 have fo:findObj K C (some od) name=some (.value v):=findObj_own (by unfold hasDictIn;rw [hc];exact hhd) ht rfl hl
 have sub:Looks (model prog w) s.heap (isInstance (.ref x) (.type "BaseException")) true:=I.type.andThen (looks_mroIn X (by unfold mroIn;rw [hc,Option.bind_some,hm];rfl))
 have L0:=I.type (M:=model prog w)
 have L1:=looks_findIn (M:=model prog w) X hg
 have L2:=looks_findIn (M:=model prog w) X hg2
 have L3:=looks_find (M:=model prog w) X I fo
 obtain ⟨hh',gs,dr,t,os⟩:=s
 skip
 refine nE1 (wpAny_mkText (nG1 (nE1 (L0.at (nE1 (L1.at ?_))))))
 have hx2:(onTheHeap (Value.ref C)&&Value.builtin "BaseException.__getattribute__"==Value.builtin "object.__getattribute__")=false:=by
  rw [show (Value.builtin "BaseException.__getattribute__"==Value.builtin "object.__getattribute__")=false from by decide +kernel,Bool.and_false]
 dsimp only
 rw [hx2,if_neg nofun]
 unfold getAttrByItsOwn hookBefore
 rw [if_pos (show onTheHeap (Value.ref C)=true from rfl)]
 refine nE1 (L2.at ?_)
 refine nE1 (wpAny_attempt (nG1 ?_))
 unfold callGetattribute
 have hx0:(expr&&onTheHeap (Value.builtin "BaseException.__getattribute__"))=false:=by cases expr <;> rfl
 rw [hx0,if_neg nofun]
 unfold boundAndCalled
 rw [f3]
 refine nE1 (nF1 (wpAny_call ?_))
 refine codeAny_call_builtin FB.ga.plain PySem.F.entry_bexc_ga (@check_slot (model prog w) _ _ _ "BaseException.__getattribute__" "BaseException" "__getattribute__" (.ref x) [.str name _] [] _ (by decide +kernel) (by decide +kernel) sub (PySem.F.args_bexc_ga (.ref x) (.str name _)) ?_)
 have eg:∀ tk,Builtin.«object.__getattribute__» ⟨[.ref x,.str name tk],[]⟩=(typeOf (.ref x) >>= fun tp=>ObjectAttr.find (.ref x) tp name >>= fun f=>match f with
  | .value v=>ret v
  | .bind g a=>bindTo g a (.ref x) tp
  | .missing=>(do
   if tp==.type "module" then
    if <- isOpaqueModuleObj (.ref x) then
     let byTheModulesOwnEntry:=match (<- stack).drop 1 with
      | (.builtin "module.__getattribute__" ⟨m :: _,_⟩,_) :: _=>m==.ref x
      | _=>false
     if !byTheModulesOwnEntry then unsupported "thirdparty:object.__getattribute__:a-miss-on-an-opaque-module"
   if tp==.type "type" then
    if let some key <- opaqueClassAbove (.ref x) then unsupported s!"thirdparty:{key.toString}.{name.toString}:object.__getattribute__-misses-on-an-opaque-class"
   noSuchAttribute (.ref x) name)):=fun tk=>by kernel_rfl
 show wpAny _ _ (Builtin.«object.__getattribute__» ⟨[.ref x,.str name t],[]⟩) _ _ _
 rw [eg]
 refine nE1 (L0.at (nE1 (L3.at ?_)))
 refine nF1 ?_
 show wpAny _ _ (handedOut v) _ _ _
 rw [handedOut_of hh]
 exact nF1 h
end
section
variable {M:Model} {A:Around} {E:Value->Shared->Prop} {env:Env}
variable {nm q:Str} {C N D:Addr} {bs:List Value} {sn:List Str} {sub:List Value} {ab:Bool} {col:Option Bool} {dd:Option Addr} {k0 k1 k2 k3 k5:Option Value}
theorem ps_matches {s:Shared} {e:Addr} {oe:Obj} {vs:Array Value} {Q:Bool->Shared->Prop} (hC:s.heap.get? C=some (psObj nm q C N D bs sn sub ab col dd k0 k1 k2 k3 k5)) (he:s.heap.get? e=some oe) (hc:oe.cls=.ref C) (hd:oe.data=.fields vs) (h:Q true s) :
  wpAny M A (excMatches (.ref e) (.ref C)) Q E s:=by
 have hcB:(Value.ref C :: Value.ref D :: excTail).contains (.type "BaseException")=true:=ps_has (by decide +kernel)
 have hcC:(Value.ref C :: Value.ref D :: excTail).contains (.ref C)=true:=by rw [List.contains_cons,beq_self_eq_true,Bool.true_or]
 have f1:=tc_notTuple
 have f2:=tc_sub
 obtain ⟨hp,g,d,tk,os⟩:=s
 obtain ⟨c,odd,dt,sl⟩:=oe
 skip
 subst hc hd
 have hT:(⟨hp,g,d,tk,os⟩:Shared).TypeIs (.ref C) "type":=⟨_,hC,rfl⟩
 skip
 repeat (any_goals (first | assumption | with_reducible refine wpAny_loadPart_at he ?_ | with_reducible refine wpAny_loadPart_at hC ?_ | (with_reducible refine wpAny_isSubtype_exc hC ?_;first | rw [hcB] | rw [hcC]) | wp_step))
end
theorem st_try {Y:Sys} {ns:Names} (KT:Kit Y) (XF:ExcFacts Y.B) {e0:Expr} {e:E} {c nme:Str} {i:Nat} {p1 p2 pc ph pn pa pos:Pos} (he:EvOk Y ns e0 e) (hg:isGlb ns c=true) (hc2:gname 45=c) (hi:ns[i]?=some (nme,NameKind.local)) (hnd:special nme=false) :
  StOk Y ns (.Try [.Return (some e0) p1] [.ExceptHandler (some (.Name c pc)) (some nme) [.Return (some (.Attribute (.Name nme pn) (Str.ofString "told") pa)) p2] ph] [] [] pos) (.tryret e i):=fun b vars z N R X hw C Qc E hQ hX=>by
 refine eX15 XF.cls fun nm q N' D bs sn sub ab col dd k0 k1 k2 k3 k5 hK=>?_
 have hcd:clsIn Y.B.K (Y.B.P.ca 0)=some { name:=nm,bases:=bs,mro:=.ref (Y.B.P.ca 0) :: .ref D :: excTail,ns:=N',qualname:=q,hasDict:=true,slotNames:=sn,subclasses:=sub,abstract:=ab,collection:=col,hasDel:=false }:=by unfold clsIn;rw [hK]
 refine wpAny_Try_except (wpAny_execs_cons (wpAny_Return_some ?_))
 refine he (b.ar vars) z R R hw C.ex _ _ (fun z₁ v g₁ q=>hQ z₁ vars (.ret v) g₁.of (C.go g₁) q) fun z₁ a e g₁ x₁ hr=>?_
 have C₁:=C.go g₁
 refine note_ok (N:=z.N) C₁.x.cx.frames C₁.x.cx.lie C₁.x.fr g₁.rep x₁ (fun f q=>.inl q) g₁.size fun z₂ g₂ e1 e2 x₂ uu=>?_
 refine flight_ok (fr:=none) g₂.rep x₂ fun z₃ g₃ e3 e4 x₃=>?_
 have old:∀ a,Own b.env ns vars a->¬ z.N<=a:=fun a ha=>Nat.not_le.mpr (C.fr.out a ha).2
 have new:∀ a:Nat,a < z.N->z.N<=a->none_ a:=fun a ha q=>absurd ha (nK.mpr q)
 have F₃:=((C.fr.go g₁).step g₂ old).step g₃ old
 have G₃:Go Y.B none_ z z₃:=(g₁.trans g₂ (fun uu q=>q) new).trans g₃ (fun uu q=>q) new
 refine wpAny_handleBy_cons (codeAny_handlers_test ?_) (by intro q;cases q)
 refine load_glb (A:=b.A.mark _) KT.f0.glob g₃.rep F₃ hg (by decide) hc2 (hc2▸by decide +kernel) fun v hv=>?_
 obtain rfl:=hv
 refine eX5 x₃.is fun oe vs d m tv qA16=>eD8 qA16 fun h1 h2 h3 h4 h5 h6 h7 h8=>?_
 refine ps_matches (KT.cls.here g₃.rep _ _ hK) h1 h2 h3 ?_
 refine codeAny_handlers_suite_as (flight_ok (A:=b.A.mark _) (fr:=none) g₃.rep x₃ fun z₄ g₄ e5 e6 x₄=>?_)
 have F₄:=F₃.step g₄ old
 have G₄:Go Y.B none_ z z₄:=G₃.trans g₄ (fun uu q=>q) new
 refine set_raw (A:=b.A.mark _) (v:=.ref e) g₄.rep F₄ hi fun h₅ m₅ g₅ F₅ hm₅ hx₅ same=>?_
 refine eX5 x₄.is fun oe vs d m tv qA17=>eD8 qA17 fun h1 h2 h3 h4 h5 h6 h7 h8=>?_
 have hne:e≠b.env.locals:=fun q=>nT _ (nD (q▸(C.fr.out _ (.inl rfl)).2:e < z.N) x₄.new)
 refine eX3 (id h5) fun od es ep qA18=>eD2 qA18 fun hod uu=>?_
 have st:∀ b o,z₄.g.get? b=some o->h₅.get? b=some o:=g₅.rep.stays
 refine wpAny_execs_cons (wpAny_Return_some ?_)
 show wpAny _ _ (attributeBase (.Name nme pn) (Str.ofString "told") b.env (eval (.Name nme pn) b.env) >>= fun o=>PySem.standAt pa.atName >>= fun uu=>PySem.holding [o] (getAttr o (Str.ofString "told") true) >>= fun r=>letTemporaryGo (.Name nme pn) o r >>= fun uu=>Pure.pure r) _ _ _
 rw [attributeBase_plain rfl]
 refine nE1 (wpAny_Name (wpAny_loadName_local C.fr.kind ((C.fr.kinds i nme _ hi).resolve_right fun q=>nomatch q.1) hm₅ hx₅ ?_) (Bool.or_eq_false_iff.mp hnd).1)
 refine nE1 (wpAny_standAt (nE1 (nG1 ?_)))
 refine get_exc (C:=Y.B.P.ca 0) (D:=D) (KT.cls.here g₅.rep) ((same e hne).trans h1) h2 h3 h4 (st _ _ hod) (lookIn_ns (h5.keeps st) (st _ _ hod) h6) hcd rfl rfl XF.get XF.getattr XF.told (handed_vr h7) ?_
 refine nE1 (wpAny_letTemporaryGo (nF1 ?_))
 have g₆:=Go.tok (own:=none_) g₅.rep (z₄.s.toks+1+1)
 refine name_goes (vars:=vars.set i none) g₆.rep (F₅.go g₆) hi fun z₇ g₇ e9 e10 F₇=>?_
 have G:=G₄.of.then (g₅.then (g₆.of.then g₇))
 refine hQ z₇ _ (.ret tv) G (C.goB G F₇) ⟨a,g₇.vr (g₆.vr h7),?_⟩
 rw [e9,e10]
 show R a z₄.k z₄.σ
 rw [e5,e6,e3,e4,e1,e2];exact hr
end
section
noncomputable def Ok (Y:Sys) (ns:Names) (e:E) (e0:Expr):Prop:=EvOk Y ns e0 e/\TrOk Y ns e0 e
section
variable {Y:Sys} {ns:Names} {lf:Nat->Arguments->Expr->Scope->Bool}
theorem both {e0:Expr} {e:E} (he:EvOk Y ns e0 e) (ht:∀ env whole,isTrue e0 env whole=(do let v <- whole;PySem.standAt e0.pos;PySem.holding [v] (truthy v))):Ok Y ns e e0:=⟨he,tr_plain he ht⟩
theorem blt_lt {a b:Nat} (h:Nat.blt a b=true):a < b:=nC h
noncomputable def EOk (Y:Sys) (lf:Nat->Arguments->Expr->Scope->Bool) (e:E):Prop:=∀ ns,(∀ e0,(chkE lf e ns).1 e0=true->Ok Y ns e e0)/\∀ es0,(chkE lf e ns).2 es0=true->AllOk Y ns es0 e
theorem sole {e:E} (h:∀ ns e0,(chkE lf e ns).1 e0=true->Ok Y ns e e0) (hn:∀ ns,(chkE lf e ns).2=n1):EOk Y lf e:=fun ns=>⟨h ns,fun es0 q=>ff ((congrFun (hn ns) es0).symm.trans q)⟩
theorem evOk (KT:Kit Y) (LF:LamFacts Y.B lf) (e:E):EOk Y lf e:=by
 induction e with
 | cst c=>exact sole (fun ns e0 h=>eConstant_e (C:=Ok Y ns (.cst c)) h fun d k p h=>band h fun h1 uu=>dec_e (C:=fun d=>Ok Y ns (.cst c) (.Constant d k p)) h1 (both ev_const fun uu uu=>rfl)) fun uu=>rfl
 | glb i=>exact sole (fun ns e0 h=>eName_e (C:=Ok Y ns (.glb i)) h fun x p h=>band h fun h h4=>band h fun h h3=>band h fun h1 h2=>both (ev_glb KT.f0.glob h1 (blt_lt h3) (of_decide_eq_true h4) (bnot h2)) fun uu uu=>rfl) fun uu=>rfl
 | loc i=>exact sole (fun ns e0 h=>eName_e (C:=Ok Y ns (.loc i)) h fun x p h=>band h fun h1 h2=>both (ev_loc h1 (bnot h2)) fun uu uu=>rfl) fun uu=>rfl
 | bin m op a b ia ib=>exact sole (fun ns e0 h=>eBinOp_e (C:=Ok Y ns (.bin m op a b)) h fun a0 o b0 p h=>band h fun h h4=>band h fun h h3=>band h fun uu h2=>dec_e (C:=fun o=>Ok Y ns (.bin m op a b) (.BinOp a0 o b0 p)) h2 (both (ev_bin ((ia ns).1 a0 h3).1 ((ib ns).1 b0 h4).1) fun uu uu=>rfl)) fun uu=>rfl
 | not a ia=>exact sole (fun ns e0 h=>eUnaryOp_e (C:=Ok Y ns (.not a)) h fun o a0 p h=>band h fun h1 h2=>dec_e (C:=fun o=>Ok Y ns (.not a) (.UnaryOp o a0 p)) h1 (((ia ns).1 a0 h2).imp ev_not tr_not)) fun uu=>rfl
 | neg a ia=>exact sole (fun ns e0 h=>eUnaryOp_e (C:=Ok Y ns (.neg a)) h fun o a0 p h=>band h fun h1 h2=>dec_e (C:=fun o=>Ok Y ns (.neg a) (.UnaryOp o a0 p)) h1 (both (ev_neg ((ia ns).1 a0 h2).1) fun uu uu=>rfl)) fun uu=>rfl
 | bop op es ie=>exact sole (fun ns e0 h=>eBoolOp_e (C:=Ok Y ns (.bop op es)) h fun o es0 p h=>band h fun h h3=>band h fun h1 h2=>dec_e (C:=fun o=>Ok Y ns (.bop op es) (.BoolOp o es0 p)) h1 (ev_bop ((ie ns).2 es0 h3) (bnot h2))) fun uu=>rfl
 | ife t a b it ia ib=>exact sole (fun ns e0 h=>eIfExp_e (C:=Ok Y ns (.ife t a b)) h fun t0 a0 b0 p h=>band h fun h h3=>band h fun h1 h2=>⟨ev_ife ((it ns).1 t0 h1).2 ((ia ns).1 a0 h2).1 ((ib ns).1 b0 h3).1,tr_ife ((it ns).1 t0 h1).2 ((ia ns).1 a0 h2).2 ((ib ns).1 b0 h3).2⟩) fun uu=>rfl
 | cmp op a b ia ib=>exact sole (fun ns e0 h=>eCompare_e (C:=Ok Y ns (.cmp op a b)) h fun a0 os bs p h=>lOne_e (C:=fun os=>Ok Y ns (.cmp op a b) (.Compare a0 os bs p)) h fun o h=>lOne_e (C:=fun bs=>Ok Y ns (.cmp op a b) (.Compare a0 [o] bs p)) h fun b0 h=>band h fun h h4=>band h fun h h3=>band h fun h1 h2 =>
   dec_e (C:=fun o=>Ok Y ns (.cmp op a b) (.Compare a0 [o] [b0] p)) h1 (ev_cmp KT.f0 KT.ne ((ia ns).1 a0 h3).1 ((ib ns).1 b0 h4).1 (bnot h2))) fun uu=>rfl
 | tup es ie=>exact sole (fun ns e0 h=>eTuple_e (C:=Ok Y ns (.tup es)) h fun es0 k p h=>both (ev_tup ((ie ns).2 es0 h).evs) fun uu uu=>rfl) fun uu=>rfl
 | lst m es ie=>exact sole (fun ns e0 h=>eList_e (C:=Ok Y ns (.lst m es)) h fun es0 p h=>band h fun uu h=>both (ev_lst ((ie ns).2 es0 h).evs) fun uu uu=>rfl) fun uu=>rfl
 | dct kd ks vs iv=>exact sole (fun ns e0 h=>eDict_e (C:=Ok Y ns (.dct kd ks vs)) h fun ks0 vs0 p h=>band h fun h h6=>band h fun h h5=>band h fun h h4=>band h fun h h3=>band h fun uu h2=>both (ev_dct ((iv ns).2 vs0 h6) h3 (nE h4) (blt_lt h5) (blt_lt h2)) fun uu uu=>rfl) fun uu=>rfl
 | attr a x ia=>exact sole (fun ns e0 h=>eAttribute_e (C:=Ok Y ns (.attr a x)) h fun a0 y p h=>band h fun h h4=>band h fun h h3=>band h fun h1 h2=>of_decide_eq_true h3▸both (ev_attr KT.cls KT.run ((ia ns).1 a0 h4).1 (bnot h1) (blt_lt h2)) fun uu uu=>rfl) fun uu=>rfl
 | sub a i ia ii=>exact sole (fun ns e0 h=>eSubscript_e (C:=Ok Y ns (.sub a i)) h fun a0 i0 p h=>band h fun h h3=>band h fun h1 h2=>both (ev_sub ((ia ns).1 a0 h2).1 ((ii ns).1 i0 h3).1 (bnot h1)) fun uu uu=>rfl) fun uu=>rfl
 | upto m a t ia it=>exact sole (fun ns e0 h=>eSubscript_e (C:=Ok Y ns (.upto m a t)) h fun a0 i0 p h=>band h fun h h3=>band h fun uu h2=>eSlice_e (C:=fun i0=>Ok Y ns (.upto m a t) (.Subscript a0 i0 p)) h3 fun l0 u0 t0 q h=>band h fun h h6=>band h fun h4 h5 =>
   oNone_e (C:=fun l0=>Ok Y ns (.upto m a t) (.Subscript a0 (.Slice l0 u0 t0 q) p)) h4 (oNone_e (C:=fun t0=>Ok Y ns (.upto m a t) (.Subscript a0 (.Slice none u0 t0 q) p)) h5 (oSome_e (C:=fun u0=>Ok Y ns (.upto m a t) (.Subscript a0 (.Slice none u0 none q) p)) h6 fun u h=>both (ev_upto ((ia ns).1 a0 h2).1 ((it ns).1 u h).1) fun uu uu=>rfl))) fun uu=>rfl
 | rev a t ia it=>exact sole (fun ns e0 h=>eSubscript_e (C:=Ok Y ns (.rev a t)) h fun a0 i0 p h=>band h fun h h3=>band h fun uu h2=>eSlice_e (C:=fun i0=>Ok Y ns (.rev a t) (.Subscript a0 i0 p)) h3 fun l0 u0 t0 q h=>band h fun h h6=>band h fun h4 h5 =>
   oNone_e (C:=fun l0=>Ok Y ns (.rev a t) (.Subscript a0 (.Slice l0 u0 t0 q) p)) h4 (oNone_e (C:=fun u0=>Ok Y ns (.rev a t) (.Subscript a0 (.Slice none u0 t0 q) p)) h5 (oSome_e (C:=fun t0=>Ok Y ns (.rev a t) (.Subscript a0 (.Slice none none t0 q) p)) h6 fun u h=>both (ev_rev ((ia ns).1 a0 h2).1 ((it ns).1 u h).1) fun uu uu=>rfl))) fun uu=>rfl
 | call f as iF ia=>exact sole (fun ns e0 h=>eCall_e (C:=Ok Y ns (.call f as)) h fun f0 as0 kw p h=>band h fun h h4=>band h fun h h3=>band h fun h1 h2=>lNil_e (C:=fun kw=>Ok Y ns (.call f as) (.Call f0 as0 kw p)) h1 (both (ev_call KT ((iF ns).1 f0 h3).1 ((ia ns).2 as0 h4) (bnot h2)) fun uu uu=>rfl)) fun uu=>rfl
 | meth o x as io ia=>exact sole (fun ns e0 h=>eCall_e (C:=Ok Y ns (.meth o x as)) h fun f0 as0 kw p h=>band h fun h h4=>band h fun h h3=>band h fun h1 h2=>lNil_e (C:=fun kw=>Ok Y ns (.meth o x as) (.Call f0 as0 kw p)) h1 (eAttribute_e (C:=fun f0=>Ok Y ns (.meth o x as) (.Call f0 as0 [] p)) h2 fun o0 y ap h =>
   band h fun h h9=>band h fun h h8=>band h fun h h7=>band h fun h5 h6=>of_decide_eq_true h8▸both (ev_meth KT ((io ns).1 o0 h9).1 ((ia ns).2 as0 h4) (bnot h5) (blt_lt h7) h6 (blt_lt h3)) fun uu uu=>rfl)) fun uu=>rfl
 | comp m elt t src ifs n caps ie is if_=>exact sole (fun ns e0 h=>eListComp_e (C:=Ok Y ns (.comp m elt t src ifs n caps)) h fun elt0 gs sc p h=>lOne_e (C:=fun gs=>Ok Y ns (.comp m elt t src ifs n caps) (.ListComp elt0 gs sc p)) h fun g h=>by
   obtain ⟨t0,src0,ifs0,as⟩:=g
   exact band h fun h h10=>band h fun h h9=>band h fun h h8=>band h fun h h7=>band h fun h h6=>band h fun h h5=>band h fun h h4=>band h fun h h3=>band h fun h1 uu=>by
    obtain rfl:=of_decide_eq_true h1
    obtain rfl:=of_decide_eq_true h4
    exact both (ev_comp KT.f0 (.of LF.none h3 (of_decide_eq_true h5)) (bnot h6) ((is ns).1 src0 h7).1 ((asgOk KT.f0 t).1 t0 h9) ((ie sc.names).1 elt0 h8).1 ((if_ sc.names).2 ifs0 h10)) fun uu uu=>rfl) fun uu=>rfl
 | lam l caps=>exact sole (fun ns e0 h=>eLambda_e (C:=Ok Y ns (.lam l caps)) h fun a b sc p h=>band h fun h h5=>band h fun h h4=>band h fun h h3=>band h fun h1 h2=>mapE (of_decide_eq_true h4) fun cs hc e=>e▸both (ev_lam LF h5 (defaultsOf_nil h2 h3) hc h1) fun uu uu=>rfl) fun uu=>rfl
 | bad=>exact sole (fun ns e0 h=>⟨fun c z Q X hw uu=>hw.elim,fun c z P Q X hw uu uu=>hw.elim⟩) fun uu=>rfl
 | nil=>exact fun ns=>⟨fun uu h=>ff h,fun es0 h=>lNil_e (C:=fun es0=>AllOk Y ns es0 .nil) h rfl⟩
 | cons a as ia ias=>exact fun ns=>⟨fun uu h=>ff h,fun es0 h=>lCons_e (C:=fun es0=>AllOk Y ns es0 (.cons a as)) h fun e r h=>band h fun h h3=>band h fun h1 h2=>⟨a,as,rfl,((ia ns).1 e h1).1,((ia ns).1 e h1).2,bnot h2,(ias ns).2 r h3⟩⟩
end
end
section
section
variable {Y:Sys} {lf:Nat->Arguments->Expr->Scope->Bool}
theorem gs_plain {ns:Names}:∀ {gs:G} {es:List Expr},(chkG lf gs ns).2 es=true->(es.all fun e=>!isStarred e)=true
 | .nil,es,h=>lNil_e (C:=fun es=>(es.all fun e=>!isStarred e)=true) h rfl
 | .cons g gs,es,h=>lCons_e (C:=fun es=>(es.all fun e=>!isStarred e)=true) h fun e r h=>band h fun h1 h2=>Bool.and_eq_true_iff.mpr ⟨congrArg (!·) (g_plain h1).1,gs_plain h2⟩
 | .simple _,_,h=>ff h
 | .attr _ _,_,h=>ff h
 | .sub _ _,_,h=>ff h
 | .tup _ _,_,h=>ff h
theorem gOk (KT:Kit Y) (LF:LamFacts Y.B lf) (g:G):∀ ns,(∀ g0,(chkG lf g ns).1 g0=true->GOk Y ns g0 g)/\∀ gs0,(chkG lf g ns).2 gs0=true->GsOk Y ns gs0 g:=by
 have E:=fun e ns=>(evOk (lf:=lf) KT LF e ns).1
 induction g with
 | simple t=>exact fun ns=>⟨fun g0 h=>eName_e (C:=fun g0=>(chkG lf (.simple t) ns).1 g0=true->GOk Y ns g0 (.simple t)) h (fun x p uu h=>g_simple ((asgOk KT.f0 t).1 _ h)) h,fun uu h=>ff h⟩
 | attr o x=>exact fun ns=>⟨fun g0 h=>eAttribute_e (C:=fun g0=>GOk Y ns g0 (.attr o x)) h fun o0 y p h=>band h fun h h3=>band h fun h1 h2=>of_decide_eq_true h2▸g_attr KT.cls (E o ns o0 h3).1 (blt_lt h1),fun uu h=>ff h⟩
 | sub o i=>exact fun ns=>⟨fun g0 h=>eSubscript_e (C:=fun g0=>GOk Y ns g0 (.sub o i)) h fun o0 i0 p h=>band h fun h h3=>band h fun uu h2=>g_sub (E o ns o0 h2).1 (E i ns i0 h3).1,fun uu h=>ff h⟩
 | tup n gs ih=>exact fun ns=>⟨fun g0 h=>eTuple_e (C:=fun g0=>GOk Y ns g0 (.tup n gs)) h fun es k p h=>band h fun h1 h2=>g_tup KT.f0 ((ih ns).2 es h2) (gs_plain h2) h1,fun uu h=>ff h⟩
 | nil=>exact fun ns=>⟨fun uu h=>ff h,fun gs0 h=>lNil_e (C:=fun gs0=>GsOk Y ns gs0 .nil) h gs_nil⟩
 | cons g gs ig igs=>exact fun ns=>⟨fun uu h=>ff h,fun gs0 h=>lCons_e (C:=fun gs0=>GsOk Y ns gs0 (.cons g gs)) h fun g0 r h=>band h fun h1 h2=>gs_cons ((ig ns).1 g0 h1) ((igs ns).2 r h2)⟩
theorem asg_any (KT:Kit Y) (LF:LamFacts Y.B lf) {ns:Names} {g:G} {e:E} {g0 e0:Expr} {p:Pos} (hf:asgFine g0 e0=true) (hg:(chkG lf g ns).1 g0=true) (he:(chkE lf e ns).1 e0=true):StOk Y ns (.Assign [g0] e0 p) (.asg g e):=by
 have E:=fun e ns=>(evOk (lf:=lf) KT LF e ns).1
 cases hc:isComp e0 with
 | false=>exact st_asg KT.f0 ((gOk KT LF g ns).1 g0 hg) hg hf (E e ns e0 he).1 hc
 | true =>
  cases e0 <;> first | exact ff hc | skip
  all_goals cases e
  all_goals first | exact ff he | exact fun b vars z N R X hw C=>hw.elim | skip
  rename_i elt0 gs sc q m elt t src ifs n caps
  exact lOne_e (C:=fun gs=>StOk Y ns (.Assign [g0] (.ListComp elt0 gs sc q) p) (.asg g (.comp m elt t src ifs n caps))) he fun w h=>by
   obtain ⟨t0,src0,ifs0,as⟩:=w
   exact band h fun h h10=>band h fun h h9=>band h fun h h8=>band h fun h h7=>band h fun h h6=>band h fun h h5=>band h fun h h4=>band h fun h h3=>band h fun h1 uu=>by
    obtain rfl:=of_decide_eq_true h1
    obtain rfl:=of_decide_eq_true h4
    exact asg_comp KT.f0 (.of LF.none h3 (of_decide_eq_true h5)) (bnot h6) (E src ns src0 h7).1 ((asgOk KT.f0 t).1 t0 h9) (E elt sc.names elt0 h8).1 ((evOk KT LF ifs sc.names).2 ifs0 h10) ((gOk KT LF g ns).1 g0 hg) (g_plain hg).1
theorem stOk (KT:Kit Y) (LF:LamFacts Y.B lf) (XF:ExcFacts Y.B) (HL:Y.B.hb.NoLimit) (s:S):∀ ns,(∀ s0,(chkS lf s ns).1 s0=true->StOk Y ns s0 s)/\∀ ss0,(chkS lf s ns).2 ss0=true->StsOk Y ns ss0 s:=by
 have E:=fun e ns=>(evOk (lf:=lf) KT LF e ns).1
 induction s with
 | expr e=>exact fun ns=>⟨fun s0 h=>sExpr_e (C:=fun s0=>StOk Y ns s0 (.expr e)) h fun e0 p h=>band h fun h1 h2=>st_expr (E e ns e0 h2).1 (bnot h1),fun uu h=>ff h⟩
 | asg g e=>exact fun ns=>⟨fun s0 h=>sAssign_e (C:=fun s0=>StOk Y ns s0 (.asg g e)) h fun gs e0 p h=>lOne_e (C:=fun gs=>StOk Y ns (.Assign gs e0 p) (.asg g e)) h fun g0 h=>band h fun h h3=>band h fun h1 h2=>asg_any KT LF h1 h2 h3,fun uu h=>ff h⟩
 | aug i op e=>exact fun ns=>⟨fun s0 h=>sAugAssign_e (C:=fun s0=>StOk Y ns s0 (.aug i op e)) h fun t0 o e0 p h=>band h fun h h3=>band h fun h1 h2=>eName_e (C:=fun t0=>StOk Y ns (.AugAssign t0 o e0 p) (.aug i op e)) h2 fun x q h2=>atK_e h2 fun k hk hl=>dec_e (C:=fun o=>StOk Y ns (.AugAssign (.Name x q) o e0 p) (.aug i op e)) h1 (st_aug (eq_of_beq hl▸hk) (E e ns e0 h3).1),fun uu h=>ff h⟩
 | ifs t a b ia ib=>exact fun ns=>⟨fun s0 h=>sIf_e (C:=fun s0=>StOk Y ns s0 (.ifs t a b)) h fun t0 a0 b0 p h=>band h fun h h3=>band h fun h1 h2=>st_if (E t ns t0 h1).2 ((ia ns).2 a0 h2) ((ib ns).2 b0 h3),fun uu h=>ff h⟩
 | «for» t it b ib=>exact fun ns=>⟨fun s0 h=>sFor_e (C:=fun s0=>StOk Y ns s0 (.for t it b)) h fun t0 it0 b0 o p h=>band h fun h h5=>band h fun h h4=>band h fun h h3=>band h fun h1 h2=>lNil_e (C:=fun o=>StOk Y ns (.For t0 it0 b0 o p) (.for t it b)) h1 (st_for KT.f0 ((asgOk KT.f0 t).1 t0 h2) (E it ns it0 h4).1 ((ib ns).2 b0 h5) (bnot h3)),fun uu h=>ff h⟩
 | ret e=>exact fun ns=>⟨fun s0 h=>sReturn_e (C:=fun s0=>StOk Y ns s0 (.ret e)) h fun r p h=>oSome_e (C:=fun r=>StOk Y ns (.Return r p) (.ret e)) h fun e0 h=>st_ret (E e ns e0 h).1,fun uu h=>ff h⟩
 | raise e=>exact fun ns=>⟨fun s0 h=>sRaise_e (C:=fun s0=>StOk Y ns s0 (.raise e)) h fun r c p h=>band h fun h1 h2=>oNone_e (C:=fun c=>StOk Y ns (.Raise r c p) (.raise e)) h1 (oSome_e (C:=fun r=>StOk Y ns (.Raise r none p) (.raise e)) h2 fun r0 h=>eCall_e (C:=fun r0=>StOk Y ns (.Raise (some r0) none p) (.raise e)) h fun f as kw q h=>band h fun h h5=>band h fun h3 h4 =>
   lNil_e (C:=fun kw=>StOk Y ns (.Raise (some (.Call f as kw q)) none p) (.raise e)) h3 (eName_e (C:=fun f=>StOk Y ns (.Raise (some (.Call f as [] q)) none p) (.raise e)) h4 fun x np h=>band h fun h6 h7=>lOne_e (C:=fun as=>StOk Y ns (.Raise (some (.Call (.Name x np) as [] q)) none p) (.raise e)) h5 fun e0 h=>band h fun h8 h9=>st_raise KT XF HL h6 (of_decide_eq_true h7) (E e ns e0 h9).1 (E e ns e0 h9).2 (bnot h8))),fun uu h=>ff h⟩
 | tryret e i=>exact fun ns=>⟨fun s0 h=>sTry_e (C:=fun s0=>StOk Y ns s0 (.tryret e i)) h fun b hs o f p h=>band h fun h h4=>band h fun h h3=>band h fun h1 h2=>lNil_e (C:=fun o=>StOk Y ns (.Try b hs o f p) (.tryret e i)) h1 (lNil_e (C:=fun f=>StOk Y ns (.Try b hs [] f p) (.tryret e i)) h2
   (lOne_e (C:=fun b=>StOk Y ns (.Try b hs [] [] p) (.tryret e i)) h4 fun s h=>sReturn_e (C:=fun s=>StOk Y ns (.Try [s] hs [] [] p) (.tryret e i)) h fun r q h=>oSome_e (C:=fun r=>StOk Y ns (.Try [.Return r q] hs [] [] p) (.tryret e i)) h fun e0 he=>lOne_e (C:=fun hs=>StOk Y ns (.Try [.Return (some e0) q] hs [] [] p) (.tryret e i)) h3 fun hd h=>by
    obtain ⟨t,n,bo,hp⟩:=hd
    exact oSome_e (C:=fun t=>StOk Y ns (.Try [.Return (some e0) q] [.ExceptHandler t n bo hp] [] [] p) (.tryret e i)) h fun te h=>eName_e (C:=fun te=>StOk Y ns (.Try [.Return (some e0) q] [.ExceptHandler (some te) n bo hp] [] [] p) (.tryret e i)) h fun x xp h=>band h fun h h7=>band h fun h5 h6 =>
     oSome_e (C:=fun n=>StOk Y ns (.Try [.Return (some e0) q] [.ExceptHandler (some (.Name x xp)) n bo hp] [] [] p) (.tryret e i)) h7 fun m h=>band h fun h h10=>band h fun h8 h9=>lOne_e (C:=fun bo=>StOk Y ns (.Try [.Return (some e0) q] [.ExceptHandler (some (.Name x xp)) (some m) bo hp] [] [] p) (.tryret e i)) h10 fun s h =>
      sReturn_e (C:=fun s=>StOk Y ns (.Try [.Return (some e0) q] [.ExceptHandler (some (.Name x xp)) (some m) [s] hp] [] [] p) (.tryret e i)) h fun r rp h=>oSome_e (C:=fun r=>StOk Y ns (.Try [.Return (some e0) q] [.ExceptHandler (some (.Name x xp)) (some m) [.Return r rp] hp] [] [] p) (.tryret e i)) h fun re h =>
       eAttribute_e (C:=fun re=>StOk Y ns (.Try [.Return (some e0) q] [.ExceptHandler (some (.Name x xp)) (some m) [.Return (some re) rp] hp] [] [] p) (.tryret e i)) h fun o y ap h=>band h fun h11 h12=>eName_e (C:=fun o=>StOk Y ns (.Try [.Return (some e0) q] [.ExceptHandler (some (.Name x xp)) (some m) [.Return (some (.Attribute o y ap)) rp] hp] [] [] p) (.tryret e i)) h12 fun m' mp h =>
        of_decide_eq_true h11▸of_decide_eq_true h▸atK_e h8 fun k hk hl=>st_try KT XF (E e ns e0 he).1 h5 (of_decide_eq_true h6) (of_decide_eq_true h▸eq_of_beq hl▸hk) (of_decide_eq_true h▸bnot h9))),fun uu h=>ff h⟩
 | bad=>exact fun ns=>⟨fun s0 h b vars z N R X hw C=>hw.elim,fun uu h=>ff h⟩
 | nil=>exact fun ns=>⟨fun uu h=>ff h,fun ss0 h=>lNil_e (C:=fun ss0=>StsOk Y ns ss0 .nil) h sts_nil⟩
 | cons s ss is iss=>exact fun ns=>⟨fun uu h=>ff h,fun ss0 h=>lCons_e (C:=fun ss0=>StsOk Y ns ss0 (.cons s ss)) h fun s0 r h=>band h fun h1 h2=>sts_cons ((is ns).1 s0 h1) ((iss ns).2 r h2)⟩
end
end
section
structure Kit0 (B:Base) (lf:Nat->Arguments->Expr->Scope->Bool):Prop where
 f0:Facts0 B
 ne:NeFact B
 cls:ClsFacts B
 blt:∀ n cw,BltOk ⟨B,n,cw⟩
 typ:∀ n cw,TypOk ⟨B,n,cw⟩
 lam:LamFacts B lf
 exc:ExcFacts B
 lim:B.hb.NoLimit
theorem cw0 {Φ:Nat->Option Fn} {Λ:Nat->Option Lm} {a:AV} {args:List AV} {k:Nat} {σ:Store} {Q X:PostV} (h:callW Φ Λ 0 a args k σ Q X):False:=by rw [callW_0] at h;exact h
theorem cws {Φ:Nat->Option Fn} {Λ:Nat->Option Lm} {n:Nat} {a:AV} {args:List AV} {k:Nat} {σ:Store} {Q X:PostV} (h:callW Φ Λ (n+1) a args k σ Q X):stepW Φ Λ (callW Φ Λ n) a args k σ Q X:=by rw [callW_s] at h;exact h.out
theorem runs_ok {B:Base} {lf:Nat->Arguments->Expr->Scope->Bool} {Φ:Nat->Option Fn} (K0:Kit0 B lf) (TX:∀ f fn,Φ f=some fn->FnAt B lf f fn):∀ n,CwOk ⟨B,n,callW Φ B.P.lms n⟩/\CwFn ⟨B,n,callW Φ B.P.lms n⟩
 | 0=>⟨fun A fs z callee args f vs Q X hw=>(cw0 hw).elim,fun callee args z f k σ Q X hw=>(cw0 hw).elim⟩
 | n+1=>by
  have ih:=runs_ok K0 TX n
  let Y:Sys:=⟨B,n,callW Φ B.P.lms n⟩
  have KT:Kit Y:=⟨K0.f0,K0.ne,K0.cls,ih.1,ih.2,K0.blt n _,K0.typ n _⟩
  constructor
  ·intro A fs z callee args f vs Q X hw C R hf hv RR hR hX
   have hw:stepW Φ B.P.lms (callW Φ B.P.lms n) callee args z.k z.σ Q X:=cws hw
   cases callee
   all_goals first | exact hw.elim | skip
   ·refine okE hw fun fn hfn hw=>?_
    obtain rfl:=hf
    exact call_fn (Y:=Y) K0.lim (TX _ fn hfn) (fun ns b h=>(stOk KT K0.lam K0.exc K0.lim fn.body ns).2 b h) hw C R hv hR hX
   ·exact okE hw fun lm hlm hw=>call_clo (Y:=Y) K0.lim K0.lam.none hlm (fun ns b h=>((evOk KT ⟨K0.lam.code,K0.lam.some,K0.lam.none,fun uu uu uu uu h=>ff h⟩ lm.body ns).1 b h).1) hw C R hf hv hR hX
  ·intro callee args z f k σ Q X hw R hf
   have hw:stepW Φ B.P.lms (callW Φ B.P.lms n) callee args k σ Q X:=cws hw
   cases callee
   all_goals first | exact hw.elim | skip
   ·refine okE hw fun fn hfn hw=>?_
    obtain rfl:=hf
    exact (TX _ fn hfn).obj.elim fun o q=>q.elim fun fd q=>q.elim fun uu q=>q.elim fun uu q=>⟨_,o,fd,rfl,R.base _ _ q.1,q.2.1⟩
   ·exact hf.elim fun a q=>q.elim fun o q=>q.elim fun fd q=>⟨a,o,fd,q.1,q.2.1,q.2.2.1⟩
end
section
open PySem.SeqAt PySem.MeetsSeq PySem.Calls
section
variable {prog:Program} {w:World} {A:Around} {E:Value->Shared->Prop} {s:Shared}
theorem call_len_obj {d:Addr} {es:Array DictEntry} {ep:Nat} {Q:Value->Shared->Prop} (hd:(d==sysModules)=false) (hm:DictObj s.heap d es ep) (hfit:(es.size:Int) < 2 ^ 63)
  (h:Q (.int es.size (s.toks+1)) { s with toks:=s.toks+1+1 }):wpAny (model prog w) A (call (.builtin "len") [.ref d]) Q E s:=by
 refine eX1 (id hm) fun o qA0=>eD3 qA0 fun ho hc hdat=>?_
 have hT:s.TypeIs (.ref d) "dict":=⟨o,ho,hc.1⟩
 refine Calls.call_function_entry kind_len plain_len entry_len (args_len1 _) ?_
 skip
 refine nE1 (m:=oneArg "len" _) (nF1 ?_)
 refine nE1 (m:=callSpecial? (.ref d) (Str.ofString "__len__")) (wpAny_callSpecial?_slot (name:=Str.ofString "__len__") hT F.slot_dict_len
  (wpAny_call_entry F.slot_dict_len hT F.entry_dict_len ?_ (F.args_dict_len_1 _)))
 show wpAny _ _ (dictSize d >>= _) _ _ s
 unfold dictSize
 refine nE1 (nE1 (wpAny_dictEntries ho hdat (nF1 ?_)))
 skip
 refine nE1 (wpAny_pendingCount_other hd ?_)
 refine wpAny_ret_mkInt ?_
 rw [show ((es.size:Int)+((0:Nat):Int))=es.size from Int.add_zero _]
 refine nE1 (nG1 (nF1 ?_))
 refine nE1 (wpAny_letGo ?_)
 skip
 rw [if_neg (Int.not_lt.mpr (Int.natCast_nonneg _))]
 skip
 rw [if_neg (Int.not_le.mpr hfit)]
 exact nE1 (wpAny_mkInt (nF1 ⟨_,rfl,h⟩))
end
theorem oInt_e {a:AV} {i:Int} {C:AV->Prop} (h:oInt a=some i) (f:C (.int i)):C a:=by cases a <;> first | exact nn h | exact (oJ h)▸f
theorem intsAll_are {P:Places} {g:Heap} {ρ:Rho}:∀ {as:List AV} {is:List Int},intsAll as=some is->∀ {vs:List Value},VRs P g ρ as vs->IntsAre vs is
 | [],is,h,[],hv=>oJ h▸.nil
 | [],is,h,_ :: _,hv=>hv.elim
 | _ :: _,is,h,[],hv=>hv.elim
 | a :: as,is,h,v :: vs,hv=>bindE h fun i hi h=>mapE h fun js hj e=>e▸oInt_e (C:=fun a=>VR P g ρ a v->IntsAre (v :: vs) (i :: js)) hi (fun r=>r.elim fun t e=>e▸.cons i t (intsAll_are hj hv.2)) hv.1
theorem intsAll_len:∀ {as:List AV} {is:List Int},intsAll as=some is->is.length=as.length
 | [],is,h=>oJ h▸rfl
 | a :: as,is,h=>bindE h fun i uu h=>mapE h fun js hj e=>e▸congrArg (·+1) (intsAll_len hj)
theorem minZ_least:∀ {is:List Int} {m:Int},minZ is=some m->m∈is/\∀ a∈is,m<=a
 | [],m,h=>nn h
 | x :: r,m,h=>by
  unfold minZ at h
  cases e:minZ r with
  | none =>
   rw [e] at h
   cases r with
   | cons y q=>skip;exact nomatch e
   | nil=>exact oJ h▸⟨.head _,fun a ha=>Int.le_of_eq (List.mem_singleton.mp ha).symm⟩
  | some y =>
   rw [e] at h
   refine eD2 (minZ_least e) fun h1 h2=>?_
   have h:min x y=m:=oJ h
   subst h
   refine ⟨(Int.le_total x y).elim (fun q=>nZ.mpr (.inl (Int.min_eq_left q))) fun q=>nZ.mpr (.inr ((Int.min_eq_right q).symm▸h1)),fun a ha=>(nZ.mp ha).elim (fun e=>e▸Int.min_le_left x y) fun ha=>Int.le_trans (Int.min_le_right x y) (h2 a ha)⟩
theorem sum_le {c:Int}:∀ {is:List Int},(∀ i∈is,-c<=i/\i<=c)->-(c*is.length)<=is.sum/\is.sum<=c*is.length
 | [],_=>by simp
 | x :: r,h=>by
  have h1:=h x (.head _)
  have h2:=sum_le (is:=r) fun i hi=>h i (.tail _ hi)
  have e:c*((x :: r).length:Int)=c*r.length+c:=by rw [List.length_cons];push_cast;rw [Int.mul_add,Int.mul_one]
  rw [e,List.sum_cons];omega
structure IsiFacts (B:Base):Prop where
 plain:plainGet B.K (B.P.ca 1) "__class__"=true
 hasD:hasDictIn B.K (B.P.ca 1)=true
 find:findIn B.K (.ref (B.P.ca 1)) "__class__"=some (some (.builtin "object.__class__"))
 spec:specialIn B.K (.builtin "object.__class__") "__get__"=some (some (.builtin "getset_descriptor.__get__"))
 takes:takesIn B.K (.builtin "object.__class__")=some true
 mro:mroIn B.K (B.P.ca 1) (.type "object")=some true
 own:kitOne B.K (.ref (B.P.ca 1)) (.type "bytes")=some false
 typ:∀ T∈["NoneType","bool","int","str","tuple","list"],kitOne B.K (.type T) (.type "bytes")=some false
 bytes:kitOne B.K (.type "bytes") (.type "bytes")=some true
section
variable {B:Base} {A:Around} {z:Z} {Q X:PostV}
theorem valued {a:AV} {v:Value} {Qc:Value->Shared->Prop} (R:Rep B z) (hq:Q a z.k z.σ) (hv:Vr B z a v) (hQ:∀ z' v,Go B none_ z z'->VEnd B Q z' v->Qc v z'.s) {h':Heap} (hk:∀ b o,z.s.heap.get? b=some o->h'.get? b=some o) (hz:z.N<=h'.objs.size) (t:Nat):Qc v (z.put h' t).s :=
 hQ (z.put h' t) v (Go.push R hk hz t) ⟨a,hv,hq⟩
theorem isinst_ok {a:AV} {v:Value} (cls:ClsFacts B) (I:IsiFacts B) (hk:Nat.blt (kindOf a) 100=true) (hq:Q (.bool (isK 4 a)) z.k z.σ) (R:Rep B z) (hv:Vr B z a v) :
  Runs B A z (call (.builtin "isinstance") [v,.type "bytes"]) (VEnd B Q) X:=by
 have XK:=cls.here R
 refine Runs.val R fun Qc E hQ=>?_
 have fin:∀ tk,Qc (.bool (isK 4 a)) (z.put z.s.heap tk).s:=fun tk=>hQ tk _ ⟨.bool (isK 4 a),rfl,hq⟩
 cases a
 all_goals first | exact ff hk | skip
 ·cases hv;exact kia_one kitx_none XK trivial (I.typ _ (.head _)) nofun fin
 ·cases hv;exact kia_one kitx_bool XK trivial (I.typ _ (.tail _ (.head _))) nofun fin
 ·refine eX1 hv fun t eA2x1=>?_;obtain rfl:=eA2x1;exact kia_one kitx_int XK trivial (I.typ _ (.tail _ (.tail _ (.head _)))) nofun fin
 ·refine eX1 hv fun t eA3x1=>?_;obtain rfl:=eA3x1;exact kia_one kitx_str XK trivial (I.typ _ (.tail _ (.tail _ (.tail _ (.head _))))) nofun fin
 ·refine eX1 hv fun t eA4x1=>?_;obtain rfl:=eA4x1;exact kia_one kitx_bytes XK trivial I.bytes nofun fin
 ·refine eX3 hv fun l its k qA5=>eD3 qA5 fun eA5x3 e r=>?_;obtain rfl:=eA5x3;exact kia_one kitx_tuple XK ⟨_,R.stays _ _ e,rfl⟩ (I.typ _ (.tail _ (.tail _ (.tail _ (.tail _ (.head _)))))) nofun fin
 ·refine eX3 hv fun l its k qA6=>eD3 qA6 fun eA6x3 e r=>?_;obtain rfl:=eA6x3;exact kia_one kitx_list XK ⟨_,R.stays _ _ e,rfl⟩ (I.typ _ (.tail _ (.tail _ (.tail _ (.tail _ (.tail _ (.head _))))))) nofun fin
theorem isinst_inst {fs:List (Nat×AV)} {v:Value} (cls:ClsFacts B) (I:IsiFacts B) (hq:Q (.bool false) z.k z.σ) (R:Rep B z) (hv:Vr B z (.inst 1 fs) v):Runs B A z (call (.builtin "isinstance") [v,.type "bytes"]) (VEnd B Q) X:=by
 refine eX4 hv fun x d es k qA7=>eD4 qA7 fun eA7x4 e1 e2 r=>?_;obtain rfl:=eA7x4
 exact Runs.val R fun Qc E hQ=>kia_one (kitx_own (od:=dictOf es k) I.plain I.hasD I.find I.spec I.takes I.mro) (cls.here R) ⟨R.stays _ _ e1,rfl,rfl,R.stays _ _ e2⟩ I.own nofun fun tk=>hQ tk _ ⟨.bool false,rfl,hq⟩
theorem fit_few {n:Nat} (h:n < 1000):(n:Int) < 2 ^ 63:=Int.lt_trans (Int.ofNat_lt.mpr h) (by decide)
theorem len_ok {fs:List Env} {n:Nat} {args:List AV} {vs:List Value} (F0:Facts0 B) (h:oneP args fun a=>cond (isK 101 a||isK 6 a) (onSeq z.σ a (fun vs=>few vs (Q (.int vs.length) z.k z.σ)) fun uu es uu=>few es (Q (.int es.length) z.k z.σ)) False) (R:Rep B z) (hv:Vrs B z args vs) :
  Runs B A z (call (.builtin "len") vs) (VEnd B Q) X:=by
 refine oneE (C:=fun args=>Vrs B z args vs->_) h (fun a h hv=>only h fun hk h=>?_) hv
 cases vs with
 | nil=>exact hv.elim
 | cons v vs =>
  cases vs with
  | cons=>exact hv.2.elim
  | nil =>
   have row:∀ {as},RowZ B z "list" as v->few as (Q (.int as.length) z.k z.σ)->Runs B A z (call (.builtin "len") [v]) (VEnd B Q) X:=fun {as} r h=>fewE h fun hl h=>by
    obtain ⟨l,its,k,rfl,e,r⟩:=r
    have hlen:=row_len r
    exact Runs.val R fun Qc E hQ=>call_len_list ⟨_,e,rfl,k,rfl⟩ (fit_few (hlen▸hl)) (hQ _ _ ⟨.int its.size,⟨_,rfl⟩,hlen▸h⟩)
   exact seqE (C:=fun a=>(isK 101 a||isK 6 a)=true->Vr B z a v->_) h (fun uu uu hk=>ff hk) (fun as h uu hv=>row (lst_row R hv) h) (fun i as hσ h uu hv=>row (cell_row R hσ hv) h) (fun i kd es ep hσ h uu hv=>fewE h fun hl h=>by
    obtain ⟨p,hρ,rfl⟩:=hv
    obtain ⟨_,ents,D,hle,_⟩:=keys_obj R hσ hρ
    exact Runs.val R fun Qc E hQ=>call_len_obj (live_ne F0 R hσ hρ) D (fit_few (hle▸hl)) (hQ _ _ ⟨.int ents.size,⟨_,rfl⟩,hle.symm▸h⟩)) hk hv.1
theorem twoInts {args:List AV} {vs:List Value} {c:Int->Int->Prop} {C:List Value->Prop} (h:twoP args fun a b=>int2 a b c) (hv:Vrs B z args vs) (f:∀ x t y s,c x y->C [.int x t,.int y s]):C vs:=by
 refine twoE (C:=fun args=>Vrs B z args vs->C vs) h (fun a b h hv=>?_) hv
 cases vs with
 | nil=>exact hv.elim
 | cons v vs =>
  cases vs with
  | nil=>exact hv.2.elim
  | cons u vs =>
   cases vs with
   | cons=>exact hv.2.2.elim
   | nil=>exact vInt2 (C:=fun v u=>C [v,u]) h hv.1 hv.2.1 f
theorem max_ok {n:Nat} {fs:List Env} {args:List AV} {vs:List Value} (h:twoP args fun a b=>int2 a b fun x y=>Q (.int (max x y)) z.k z.σ) (C:CxZ B A fs n z) (R:Rep B z) (hv:Vrs B z args vs):Runs B A z (call (.builtin "max") vs) (VEnd B Q) X :=
 twoInts (C:=fun vs=>Runs B A z (call (.builtin "max") vs) (VEnd B Q) X) h hv fun x t y s h Qc E hQ uu=>sized (max_two_ints C.handled fun h' tk hk hz=>by
  by_cases q:y > x
  ·rw [if_pos q];exact valued R h ⟨_,congrArg (Value.int · _) (Int.max_eq_right (Int.le_of_lt q)).symm⟩ hQ hk hz tk
  ·rw [if_neg q];exact valued R h ⟨_,congrArg (Value.int · _) (Int.max_eq_left (Int.not_lt.mp q)).symm⟩ hQ hk hz tk)
theorem oneInts {args:List AV} {vs:List Value} {c:List AV->List Int->Prop} {C:List Value->Prop} (R:Rep B z) (h:oneP args fun a=>asLst a fun vs=>okO (intsAll vs) (c vs)) (hv:Vrs B z args vs) (f:∀ as is l k (xs:Array (Int×Tok)),intsAll as=some is->is=xs.toList.map (·.1)->z.g.get? l=some (rowObj "list" (intItems xs) k)->Vrs B z as (intItems xs).toList->c as is->C [.ref l]):C vs:=by
 refine oneE (C:=fun args=>Vrs B z args vs->C vs) h (fun a h hv=>lstA (C:=fun a=>Vrs B z [a] vs->C vs) h (fun as h hv=>okE h fun is his h=>?_) hv) hv
 cases vs with
 | nil=>exact hv.elim
 | cons v vs =>
  cases vs with
  | cons=>exact hv.2.elim
  | nil =>
   refine eD2 hv fun qA11x0 uu=>?_;refine eX3 qA11x0 fun l its k qB3=>eD3 qB3 fun eB3x3 e r=>?_;obtain rfl:=eB3x3
   have hI:=intsAll_are his r
   refine eX1 hI.allInts.items fun xs e'=>?_
   rw [Array.toArray_toList] at e'
   subst e'
   exact f as is l k xs his (by rw [<- hI.numsOf,<- nums_intItems]) e r h
theorem min_list {n:Nat} {fs:List Env} {args:List AV} {vs:List Value} (h:oneP args fun a=>asLst a fun vs=>okO (intsAll vs) fun is=>okO (minZ is) fun m=>few vs (Q (.int m) z.k z.σ)) (C:CxZ B A fs n z) (R:Rep B z) (hv:Vrs B z args vs):Runs B A z (call (.builtin "min") vs) (VEnd B Q) X :=
 oneInts (C:=fun vs=>Runs B A z (call (.builtin "min") vs) (VEnd B Q) X) R h hv fun as is l k xs his hns e r h=>okE h fun m hm h=>fewE h fun hl hq=>by
  refine eD2 (minZ_least hm) fun m1 m2=>?_
  have len:is.length=xs.size:=hns▸(nY ..).trans Array.length_toList
  have hsz:0 < xs.size:=len▸List.length_pos_of_mem m1
  intro Qc E hQ _
  refine sized (min_intList C.handled ⟨_,R.stays _ _ e,rfl,k,rfl⟩ hsz fun v h' tk hv hk hz=>?_)
  refine eX1 (intItems_at hv) fun t eA14x1=>?_;obtain rfl:=eA14x1
  refine eD2 (argBest_lt (numAt xs) (xs.size - 1)) fun q1 q2=>?_
  have mem:numAt xs (argBest (fun i j=>decide (numAt xs i < numAt xs j)) (xs.size - 1))∈is:=by
   rw [hns,numAt_eq];exact getD_mem (by rw [<- hns,len];exact nF q1 (Nat.sub_lt hsz Nat.one_pos))
  have low:∀ a∈is,numAt xs (argBest (fun i j=>decide (numAt xs i < numAt xs j)) (xs.size - 1))<=a:=fun a ha=>by
   rw [hns] at ha
   refine eX1 (mem_getD ha) fun j qA16=>eD2 qA16 fun hj eA16x2=>?_;obtain rfl:=eA16x2
   rw [<- hns,len] at hj
   rw [<- numAt_eq];exact q2 j (Nat.le_sub_one_of_lt hj)
  rw [Int.le_antisymm (low m m1) (m2 _ mem)]
  exact valued R hq ⟨_,rfl⟩ hQ hk hz tk
theorem min_ok {n:Nat} {fs:List Env} {args:List AV} {vs:List Value} (h:consP args fun a r=>cond (isK 2 a) (oneP r fun b=>int2 a b fun x y=>Q (.int (min x y)) z.k z.σ) (nilP r (asLst a fun vs=>okO (intsAll vs) fun is=>okO (minZ is) fun m=>few vs (Q (.int m) z.k z.σ)))) (C:CxZ B A fs n z) (R:Rep B z) (hv:Vrs B z args vs):Runs B A z (call (.builtin "min") vs) (VEnd B Q) X :=
 consE (C:=fun args=>Vrs B z args vs->Runs B A z (call (.builtin "min") vs) (VEnd B Q) X) h (fun a r h hv=>either h (fun uu h=>twoInts (C:=fun vs=>Runs B A z (call (.builtin "min") vs) (VEnd B Q) X) (args:=a :: r) h hv fun x t y s h Qc E hQ uu=>sized (min_two_ints C.handled fun h' tk hk hz=>by
   by_cases q:y < x
   ·rw [if_pos q];exact valued R h ⟨_,congrArg (Value.int · _) (Int.min_eq_right (Int.le_of_lt q)).symm⟩ hQ hk hz tk
   ·rw [if_neg q];exact valued R h ⟨_,congrArg (Value.int · _) (Int.min_eq_left (Int.not_lt.mp q)).symm⟩ hQ hk hz tk)) fun uu h=>min_list (args:=a :: r) h C R hv) hv
theorem sum_ok {n:Nat} {fs:List Env} {args:List AV} {vs:List Value} (h:oneP args fun a=>asLst a fun vs=>okO (intsAll vs) fun is=>cond (allSmall is) (few vs (Q (.int is.sum) z.k z.σ)) False) (C:CxZ B A fs n z) (R:Rep B z) (hv:Vrs B z args vs):Runs B A z (call (.builtin "sum") vs) (VEnd B Q) X :=
 oneInts (C:=fun vs=>Runs B A z (call (.builtin "sum") vs) (VEnd B Q) X) R h hv fun as is l k xs his hns e r h=>only h fun hsm h=>fewE h fun hl hq=>by
  have len:is.length=xs.size:=hns▸(nY ..).trans Array.length_toList
  have hb:∀ i∈is,-(1152921504606847:Int)<=i/\i<=1152921504606847:=fun i hi=>by have:=small_lt (nC1.mp hsm i hi);omega
  intro Qc E hQ _
  refine sized (sum_intList C.handled ⟨_,R.stays _ _ e,rfl,k,rfl⟩ (fun j hj=>?_) fun h' tk t' hk hz=>?_)
  ·have hj':j < is.length:=len▸hj
   have hlen':is.length < 1000:=intsAll_len his▸hl
   have p1:=hb _ (getD_mem hj')
   have p2:=sum_le (c:=1152921504606847) (is:=is.take (j+1)) fun i hi=>hb i (List.mem_of_mem_take hi)
   have p3:((is.take (j+1)).length:Int) < 1000:=Int.ofNat_lt.mpr (nF (List.length_take_le' _ _) hlen')
   rw [numAt_eq,preSum_eq,<- hns]
   unfold InLong
   omega
  ·have e3:preSum (numAt xs) xs.size=is.sum:=by rw [preSum_eq,<- hns,List.take_of_length_le (nG len)]
   rw [e3]
   exact valued R hq ⟨_,rfl⟩ hQ hk hz tk
end
end
section
open PySem.SeqAt PySem.MeetsSeq PySem.Calls
noncomputable def nums (b:List UInt8):List Nat:=b.map (·.toNat)
theorem nums_inj:∀ {a b:List UInt8},nums a=nums b->a=b
 | [],[],_=>rfl
 | [],_ :: _,h=>nomatch h
 | _ :: _,[],h=>nomatch h
 | a :: r,b :: q,h=>by rw [UInt8.toNat_inj.mp (List.cons.inj h).1,nums_inj (List.cons.inj h).2]
@[reducible] noncomputable def byKind:PyProof.Rows.KeyKind where
 α:=List Nat
 blt a b:=decide (a < b)
 irrefl a:=decide_eq_false (List.lt_irrefl a)
 trans a b c h1 h2:=decide_eq_true (List.lt_trans (of_decide_eq_true h1) (of_decide_eq_true h2))
 negTrans a b c h:=(Decidable.em (a < b)).elim (fun q=>.inl (decide_eq_true q)) fun q=>.inr (decide_eq_true (List.lt_of_le_of_lt (List.not_lt.mp q) (of_decide_eq_true h)))
 total a b h1 h2:=List.le_antisymm (List.not_lt.mp (of_decide_eq_false h2)) (List.not_lt.mp (of_decide_eq_false h1))
 keyOf v:=match v with | .bytes b _=>some (nums b.toList) | _=>none
 dflt:=[]
@[reducible] noncomputable def izKind:PyProof.Rows.KeyKind where
 α:=Int
 blt a b:=decide (a < b)
 irrefl a:=decide_eq_false (Int.lt_irrefl a)
 trans a b c h1 h2:=decide_eq_true (Int.lt_trans (of_decide_eq_true h1) (of_decide_eq_true h2))
 negTrans a b c h:=(Decidable.em (a < b)).elim (fun q=>.inl (decide_eq_true q)) fun q=>.inr (decide_eq_true (Int.lt_of_le_of_lt (Int.not_lt.mp q) (of_decide_eq_true h)))
 total a b h1 h2:=Int.le_antisymm (Int.not_lt.mp (of_decide_eq_false h2)) (Int.not_lt.mp (of_decide_eq_false h1))
 keyOf v:=match v with | .int i _=>some i | _=>none
 dflt:=0
theorem slot_bytes_lt':Slot "bytes" (cmpInfo .Lt).2.1 "bytes.__lt__" :=
 .of (owner:="bytes") (n:="__lt__") (by rw [typeLookup_type,builtinLookup_eq_fast];kernel_rfl) (by decide +kernel) (by decide +kernel) (by decide +kernel)
  (by first | exact .inl (by decide +kernel) | exact .inr (by decide +kernel)) (by rw [isSubtype_type];kernel_rfl)
theorem entry_bytes_lt':entryFor table "bytes.__lt__"=some Builtin.«bytes.__lt__»:=entryFor_of_fast (by kernel_rfl)
theorem args_bytes_lt' (a b:Value):argsOk "bytes.__lt__" ⟨[a,b],[]⟩:=by skip;kernel_rfl
theorem sub_bytes_bytes:isSubtype (.type "bytes") (.type "bytes")=pure true:=by rw [isSubtype_type];kernel_rfl
theorem lt3 (a b:UInt8) {C:Prop} (f:a.toNat < b.toNat->(a < b)->C) (g:b.toNat < a.toNat->(b < a)->¬ (a < b)->C) (h:a.toNat=b.toNat->¬ (a < b)->¬ (b < a)->C):C :=
 (Nat.lt_trichotomy a.toNat b.toNat).elim (fun q=>f q (UInt8.lt_iff_toNat_lt.mpr q)) fun q=>q.elim (fun q=>h q (fun r=>nT _ (q▸UInt8.lt_iff_toNat_lt.mp r)) fun r=>nT _ (q▸UInt8.lt_iff_toNat_lt.mp r)) fun q=>g q (UInt8.lt_iff_toNat_lt.mpr q) fun r=>Nat.lt_asymm q (UInt8.lt_iff_toNat_lt.mp r)
theorem order_lt:∀ (a b:List UInt8),Builtin.Bytes.holds "__lt__" (Builtin.Bytes.order a b)=decide (nums a < nums b)
 | [],[]=>rfl
 | [],b :: q=>rfl
 | a :: r,[]=>rfl
 | a :: r,b :: q=>by
  unfold Builtin.Bytes.order
  show _=decide (a.toNat :: nums r < b.toNat :: nums q)
  refine lt3 a b (fun h1 h2=>?_) (fun h1 h2 h3=>?_) fun h1 h2 h3=>?_
  ·rw [if_pos h2,decide_eq_true (List.cons_lt_cons_iff.mpr (.inl h1))];rfl
  ·rw [if_neg h3,if_pos h2,decide_eq_false fun h=>(List.cons_lt_cons_iff.mp h).elim (fun q=>Nat.lt_asymm q h1) fun q=>nT _ (q.1▸h1)];rfl
  ·rw [if_neg h2,if_neg h3,order_lt r q]
   exact decide_eq_decide.mpr ⟨fun h=>List.cons_lt_cons_iff.mpr (.inr ⟨h1,h⟩),fun h=>(List.cons_lt_cons_iff.mp h).elim (fun q=>absurd q (h1▸nT _)) (·.2)⟩
theorem bytes_lt_wp {prog:Program} {w:World} {A:Around} {E:Value->Shared->Prop} {s:Shared} {u v:Array UInt8} {t t':Tok} {Q:Value->Shared->Prop} (h:Q (.bool (decide (nums u.toList < nums v.toList))) s) :
  wpAny (model prog w) A (call (.builtin "bytes.__lt__") [.bytes u t,.bytes v t']) Q E s:=by
 refine wpAny_call_entry slot_bytes_lt' (typeIs_bytes s u t) entry_bytes_lt' ?_ (args_bytes_lt' _ _)
 show wpAny (model prog w) A.in1 (isInstance (.bytes v t') (.type "bytes") >>= fun r=>_) _ E s
 exact nE1 (wpAny_isInstance (typeIs_bytes s v t') sub_bytes_bytes (nF1 ⟨_,rfl,order_lt u.toList v.toList▸h⟩))
noncomputable def isB (v:Value):Prop:=∃ b t,v=.bytes (List.toArray b) t
noncomputable def isZ (v:Value):Prop:=∃ (i:Int) (t:Tok),v=.int i t
noncomputable def keyB:Value->List UInt8
 | .bytes b _=>b.toList
 | _=>[]
noncomputable def keyZ:Value->Int
 | .int i _=>i
 | _=>0
theorem byKind_oneLt:byKind.OneLt:=by
 intro prog w A E s x y a b Q ha hb h
 cases x <;> first | exact nn ha | skip
 cases y <;> first | exact nn hb | skip
 cases ha;cases hb
 rename_i u t v t'
 rw [oneLt'_eq]
 dsimp only [if_true]
 refine nE1 (wpAny_cRoomFor_byValue rfl ?_)
 refine nE1 (wpAny_callSpecialIfBound?_slot (typeIs_bytes s u t) slot_bytes_lt' ?_)
 exact bytes_lt_wp (wpAny_truthy_bool h)
theorem izKind_oneLt:izKind.OneLt:=by
 intro prog w A E s x y a b Q ha hb h
 cases x <;> first | exact nn ha | skip
 cases y <;> first | exact nn hb | skip
 cases ha;cases hb
 exact oneLt_int h
theorem mapM_all {f:Value->Sem (Option Value)} {r:Option Value}:∀ {vs:List Value},(∀ v∈vs,f v=pure r)->vs.mapM f=pure (vs.map fun uu=>r)
 | [],_=>rfl
 | v :: vs,h=>by rw [List.mapM_cons,h v (.head _),pure_bind,mapM_all fun u hu=>h u (.tail _ hu),pure_bind];rfl
theorem mapM_all' {f:Value->Sem Value} {r:Value}:∀ {vs:List Value},(∀ v∈vs,f v=pure r)->vs.mapM f=pure (vs.map fun uu=>r)
 | [],_=>rfl
 | v :: vs,h=>by rw [List.mapM_cons,h v (.head _),pure_bind,mapM_all' fun u hu=>h u (.tail _ hu),pure_bind];rfl
theorem keyKind_bytes {v₁ v₂:Value} {vs:List Value} (hS:∀ v∈v₁ :: v₂ :: vs,isB v):keyKind' (v₁ :: v₂ :: vs).toArray=pure oneType':=by
 rw [keyKind'_eq,List.mapM_toArray,mapM_all (r:=none) fun v hv=>(hS v hv).elim fun b q=>q.elim fun t e=>e▸rfl]
 simp only [map_pure,pure_bind]
 rw [if_neg (by simp),if_neg (by simp)]
 rw [oneTypeOnly'_eq,List.mapM_toArray,mapM_all' (r:=.type "bytes") fun v hv=>(hS v hv).elim fun b q=>q.elim fun t e=>e▸rfl]
 simp only [map_pure,pure_bind]
 have hall:((List.map (fun uu=>Value.type "bytes") (v₁ :: v₂ :: vs)).toArray.all fun x=>x==Value.type "bytes")=true:=by
  simp only [List.all_toArray,List.all_map,nC1]
  intro _ _
  rfl
 have h0:(List.map (fun uu=>Value.type "bytes") (v₁ :: v₂ :: vs)).toArray[0]?=some (Value.type "bytes"):=by simp
 rw [h0]
 simp only [hall,if_true,pure_bind,Option.isSome_some]
theorem insB_perm (x:List UInt8):∀ l,(insB x l).Perm (x :: l)
 | []=>.refl _
 | y :: r=>by
  unfold insB
  cases insB.leB x y with
  | true=>exact .refl _
  | false=>exact ((insB_perm x r).cons y).trans (.swap x y r)
theorem sortB_perm:∀ l,(sortB l).Perm l
 | []=>.refl _
 | x :: r=>(insB_perm x _).trans ((sortB_perm r).cons x)
noncomputable def LeB (a b:List UInt8):Prop:=¬ (nums b < nums a)
theorem leB_iff:∀ (a b:List UInt8),insB.leB a b=true↔LeB a b
 | [],b=>⟨fun uu=>List.not_lt_nil _,fun uu=>rfl⟩
 | a :: r,[]=>⟨fun h=>ff h,fun h=>absurd (List.nil_lt_cons _ _) h⟩
 | a :: r,b :: q=>by
  show cond (decide (a < b)) true (cond (decide (b < a)) false (insB.leB r q))=true↔¬ (b.toNat :: nums q < a.toNat :: nums r)
  refine lt3 a b (fun h1 h2=>?_) (fun h1 h2 h3=>?_) fun h1 h2 h3=>?_
  ·rw [decide_eq_true h2]
   exact ⟨fun uu h=>(List.cons_lt_cons_iff.mp h).elim (fun q=>Nat.lt_asymm q h1) fun q=>nT _ (q.1▸h1),fun uu=>rfl⟩
  ·rw [decide_eq_false h3,decide_eq_true h2]
   exact ⟨fun h=>ff h,fun h=>absurd (List.cons_lt_cons_iff.mpr (.inl h1)) h⟩
  ·rw [decide_eq_false h2,decide_eq_false h3]
   exact (leB_iff r q).trans ⟨fun h h'=>(List.cons_lt_cons_iff.mp h').elim (fun q=>absurd q (h1▸nT _)) fun q=>h q.2,fun h h'=>h (List.cons_lt_cons_iff.mpr (.inr ⟨h1.symm,h'⟩))⟩
theorem LeB.trans {a b c:List UInt8} (h1:LeB a b) (h2:LeB b c):LeB a c:=fun h=>h1 (List.lt_of_le_of_lt (List.not_lt.mp h2) h)
theorem LeB.antisymm {a b:List UInt8} (h1:LeB a b) (h2:LeB b a):a=b:=nums_inj (List.le_antisymm (List.not_lt.mp h1) (List.not_lt.mp h2))
theorem LeB.total {a b:List UInt8} (h:¬ LeB a b):LeB b a:=fun h'=>h fun h''=>List.lt_irrefl _ (List.lt_trans h' h'')
theorem insB_sorted (x:List UInt8):∀ l,l.Pairwise LeB->(insB x l).Pairwise LeB
 | [],_=>.cons nofun .nil
 | y :: r,h=>by
  have hy:=List.pairwise_cons.mp h
  unfold insB
  cases q:insB.leB x y with
  | true=>exact List.pairwise_cons.mpr ⟨fun z hz=>(nZ.mp hz).elim (fun e=>e▸(leB_iff x y).mp q) fun hz=>LeB.trans ((leB_iff x y).mp q) (hy.1 z hz),h⟩
  | false =>
   have q:LeB y x:=LeB.total fun h=>ff (q.symm.trans ((leB_iff x y).mpr h))
   exact List.pairwise_cons.mpr ⟨fun z hz=>(nZ.mp ((insB_perm x r).mem_iff.mp hz)).elim (fun e=>e▸q) (hy.1 z),insB_sorted x r hy.2⟩
theorem sortB_sorted:∀ l,(sortB l).Pairwise LeB
 | []=>.nil
 | x :: r=>insB_sorted x _ (sortB_sorted r)
theorem sorted_eqB {l l':List (List UInt8)} (hp:l'.Perm l) (hs:l'.Pairwise LeB):l'=sortB l :=
 List.Perm.eq_of_pairwise (fun uu uu uu uu h1 h2=>LeB.antisymm h1 h2) hs (sortB_sorted l) (hp.trans (sortB_perm l).symm)
theorem insZ_mem (x:Int):∀ l a,a∈insZ x l↔a=x∨a∈l
 | [],a=>List.mem_singleton.trans ⟨.inl,fun h=>h.elim id nofun⟩
 | y :: r,a=>by
  unfold insZ
  split
  ·exact nZ
  ·split
   ·rename_i _ e
    exact ⟨.inr,fun h=>h.elim (fun h=>nZ.mpr (.inl (h.trans e))) id⟩
   ·rw [nZ,insZ_mem x r a,nZ];exact ⟨fun h=>h.elim (fun h=>.inr (.inl h)) fun h=>h.imp id .inr,fun h=>h.elim (fun h=>.inr (.inl h)) fun h=>h.imp id .inr⟩
theorem sortZ_mem:∀ l (a:Int),a∈sortZ l↔a∈l
 | [],a=>.rfl
 | x :: r,a=>by show a∈insZ x (sortZ r)↔_;rw [insZ_mem,sortZ_mem r a,nZ]
theorem insZ_sorted (x:Int):∀ l,l.Pairwise (· < ·)->(insZ x l).Pairwise (· < ·)
 | [],_=>.cons nofun .nil
 | y :: r,h=>by
  have hy:=List.pairwise_cons.mp h
  unfold insZ
  split
  ·rename_i q
   exact List.pairwise_cons.mpr ⟨fun z hz=>(nZ.mp hz).elim (fun e=>e▸q) fun hz=>Int.lt_trans q (hy.1 z hz),h⟩
  ·split
   ·exact h
   ·rename_i q1 q2
    exact List.pairwise_cons.mpr ⟨fun z hz=>((insZ_mem x r z).mp hz).elim (fun e=>e▸Int.lt_iff_le_and_ne.mpr ⟨Int.not_lt.mp q1,Ne.symm q2⟩) (hy.1 z),insZ_sorted x r hy.2⟩
theorem sortZ_sorted:∀ l,(sortZ l).Pairwise (· < ·)
 | []=>.nil
 | x :: r=>insZ_sorted x _ (sortZ_sorted r)
theorem sorted_eqZ {l l':List Int} (hn:l'.Nodup) (hm:∀ i,i∈l'↔i∈l) (hs:l'.Pairwise (·<=·)):l'=sortZ l :=
 List.Perm.eq_of_pairwise (le:=(· < ·)) (fun uu uu uu uu h1 h2=>absurd h1 (Int.lt_asymm h2)) ((List.pairwise_and_iff.mpr ⟨hs,hn⟩).imp fun h=>Int.lt_iff_le_and_ne.mpr h) (sortZ_sorted l)
  ((List.perm_ext_iff_of_nodup hn ((sortZ_sorted l).imp fun h=>Int.ne_of_lt h)).mpr fun i=>(hm i).trans (sortZ_mem l i).symm)
end
section
open PySem.SeqAt PySem.MeetsSeq PySem.Calls
theorem sorted_gen {prog:Program} {w:World} {A:Around} {E:Value->Shared->Prop} {s:Shared} {κ:PyProof.Rows.KeyKind} (hO:κ.OneLt) {x:Value} {Pv:List Value->Prop} {Q:Value->Shared->Prop}
  (hc:∀ (R:List Value->Shared->Prop) (E:Value->Shared->Prop),(∀ vs h' tk,Pv vs->(∀ b o,s.heap.get? b=some o->h'.get? b=some o)->R vs { s with heap:=h',toks:=tk })->wpAny (model prog w) A.in1 (collect x) R E s)
  (h0:∀ vs,Pv vs->KeysOf κ (pairsOf vs)/\(∀ v₁ v₂ rest,vs=v₁ :: v₂ :: rest->keyKind' (v₁ :: v₂ :: rest).toArray=pure oneType')/\vs.length < 64)
  (h:∀ vs (st':SortSt) h' tk D e,Pv vs->(∀ b o,s.heap.get? b=some o->h'.get? b=some o)->s.heap.objs.size<=D->h'.get? D=some (rowObj "list" ((arrOf st').map (·.2)) e)->(arrOf st').Perm (pairsOf vs)->SortedToK κ (arrOf st') (pairsOf vs).size->Q (.ref D) { s with heap:=h',toks:=tk }) :
  wpAny (model prog w) A (call (.builtin "sorted") [x]) Q E s:=by
 refine Calls.call_function_entry kind_sorted plain_sorted entry_sorted (args_sorted1 _) ?_
 skip
 refine nE1 (m:=checkCount "sorted" 1 1 _) (nF1 ?_)
 refine nE1 (sized (hc _ _ fun vs h₁ tk hv hk hz=>?_))
 refine eD3 (h0 vs hv) fun k0 kk h64=>?_
 have hz':s.heap.objs.size<=h₁.objs.size:=hz
 refine nE1 (wpAny_newList ?_ (line_ok (Nat.lt_trans h64 (by decide))))
 have hoL:(h₁.push (seqObj "list" vs.toArray 0)).get? h₁.objs.size=some (seqObj "list" vs.toArray 0):=Heap.get?_push_size _ rfl
 refine nE1 (nG1 (wpAny_call_entry slot_list_sort ⟨_,hoL,rfl⟩ entry_list_sort (list_sort_treeK hO hoL k0 kk h64 fun st' a1 a2=>⟨_,rfl,?_⟩) (args_list_sort _)))
 refine eX1 (sortedHeap_at (out:=(arrOf st').map (·.2)) hoL) fun e he=>?_
 refine nF1 ⟨_,rfl,h vs st' _ tk _ e hv (fun b o hb=>?_) hz' he a1 a2⟩
 have hlt:=nD (Heap.lt_size hb) hz'
 rw [sortedHeap_old (nH hlt) (by rw [Heap.size_push];exact nX hlt)]
 exact Heap.get?_push_of_some _ (hk b o hb)
theorem sorted_out {κ:PyProof.Rows.KeyKind} {α:Type} {key:Value->α} {is:Value->Prop} {LE:α->α->Prop} (hk:∀ {u v a b},is u->is v->κ.keyOf u=some a->κ.keyOf v=some b->κ.blt b a=false->LE (key u) (key v)) (hko:∀ v,is v->∃ a,κ.keyOf v=some a)
  {vs:List Value} (hS:∀ v∈vs,is v) {xs:Array Keyed} (hp:xs.Perm (pairsOf vs)) (hs:SortedToK κ xs (pairsOf vs).size):(∀ v∈(xs.map (·.2)).toList,is v)/\((xs.map (·.2)).toList.map key).Perm (vs.map key)/\((xs.map (·.2)).toList.map key).Pairwise LE:=by
 have hl:xs.toList.Perm (vs.zip vs):=by rw [<- pairsOf_toList];exact Array.perm_iff_toList_perm.mp hp
 have hmem:∀ p,p∈xs.toList->p.1=p.2/\p.1∈vs:=fun p hp'=>mem_zip_self (hl.mem_iff.mp hp')
 have e:(xs.map (·.2)).toList=xs.toList.map (·.1):=by
  rw [Array.toList_map];exact List.map_congr_left fun p hp'=>(hmem p hp').1.symm
 rw [e]
 refine ⟨fun v hv=>(List.mem_map.mp hv).elim fun p q=>q.2▸hS _ (hmem p q.1).2,?_,?_⟩
 ·have:=(hl.map Prod.fst).map key
  rw [List.map_fst_zip (nB _)] at this
  exact this
 ·rw [List.map_map,List.pairwise_map,List.pairwise_iff_getElem]
  intro i j hi hj hij
  rw [Array.length_toList] at hi hj
  have at_:∀ {i} (hi:i < xs.size),is xs[i].1/\∃ a,κ.keyOf xs[i].1=some a/\KK κ xs i=a:=fun {i} hi=>by
   have hi':=hS _ (hmem xs[i] (Array.getElem_mem_toList hi)).2
   refine eX1 (hko _ hi') fun a ha=>?_
   refine ⟨hi',a,ha,?_⟩
   unfold KK
   rw [Array.getElem?_eq_getElem hi]
   show (κ.keyOf xs[i].1).getD _=a
   rw [ha];rfl
  obtain ⟨i1,a,ka,ea⟩:=at_ hi
  obtain ⟨j1,b,kb,eb⟩:=at_ hj
  have h1:=hs i j (nU hij) (by rw [<- hp.size_eq];exact hj)
  rw [ea,eb] at h1
  exact hk i1 j1 ka kb h1
theorem keysOf_all {κ:PyProof.Rows.KeyKind} {is:Value->Prop} (hko:∀ v,is v->∃ a,κ.keyOf v=some a) {vs:List Value} (hS:∀ v∈vs,is v):KeysOf κ (pairsOf vs):=fun p hp=>by
 rw [pairsOf_toList] at hp
 exact hko _ (hS _ (mem_zip_self hp).2)
theorem isB_key:∀ v,isB v->∃ a,byKind.keyOf v=some a:=fun v h=>h.elim fun b q=>q.elim fun t e=>⟨nums b,e▸rfl⟩
theorem isB_le {u v:Value} {a b:List Nat} (hu:isB u) (hv:isB v) (ha:byKind.keyOf u=some a) (hb:byKind.keyOf v=some b) (h:byKind.blt b a=false):LeB (keyB u) (keyB v):=by
 refine eX2 hu fun x t eA5x2=>?_;obtain rfl:=eA5x2
 refine eX2 hv fun y t' eA6x2=>?_;obtain rfl:=eA6x2
 obtain rfl:=oJ ha;obtain rfl:=oJ hb
 exact of_decide_eq_false h
theorem isZ_key:∀ v,isZ v->∃ a,izKind.keyOf v=some a:=fun v h=>h.elim fun b q=>q.elim fun t e=>⟨b,e▸rfl⟩
theorem isZ_le {u v:Value} {a b:Int} (hu:isZ u) (hv:isZ v) (ha:izKind.keyOf u=some a) (hb:izKind.keyOf v=some b) (h:izKind.blt b a=false):keyZ u<=keyZ v:=by
 refine eX2 hu fun x t eA7x2=>?_;obtain rfl:=eA7x2
 refine eX2 hv fun y t' eA8x2=>?_;obtain rfl:=eA8x2
 obtain rfl:=oJ ha;obtain rfl:=oJ hb
 exact Int.not_lt.mp (of_decide_eq_false h)
section
variable {P:Places} {g:Heap} {ρ:Rho}
theorem vrs_bytes:∀ {vs:List Value},(∀ v∈vs,isB v)->VRs P g ρ ((vs.map keyB).map .bytes) vs
 | [],_=>trivial
 | v :: vs,h=>⟨(h v (.head _)).elim fun b q=>q.elim fun t e=>⟨t,e▸rfl⟩,vrs_bytes fun u hu=>h u (.tail _ hu)⟩
theorem vrs_ints:∀ {vs:List Value},(∀ v∈vs,isZ v)->VRs P g ρ ((vs.map keyZ).map .int) vs
 | [],_=>trivial
 | v :: vs,h=>⟨(h v (.head _)).elim fun b q=>q.elim fun t e=>⟨t,e▸rfl⟩,vrs_ints fun u hu=>h u (.tail _ hu)⟩
theorem oBytes_e {a:AV} {i:List UInt8} {C:AV->Prop} (h:oBytes a=some i) (f:C (.bytes i)):C a:=by cases a <;> first | exact nn h | exact (oJ h)▸f
theorem bytesAll_are:∀ {as:List AV} {bs:List (List UInt8)},bytesAll as=some bs->∀ {vs:List Value},VRs P g ρ as vs->(∀ v∈vs,isB v)/\vs.map keyB=bs
 | [],bs,h,[],hv=>⟨nofun,oJ h⟩
 | [],_,_,_ :: _,hv=>hv.elim
 | _ :: _,_,_,[],hv=>hv.elim
 | a :: as,bs,h,v :: vs,hv=>bindE h fun i hi h=>mapE h fun js hj e=>oBytes_e (C:=fun a=>VR P g ρ a v->(∀ u∈v :: vs,isB u)/\(v :: vs).map keyB=bs) hi (fun r=>r.elim fun t e'=>by
   have ih:=bytesAll_are hj hv.2
   subst e' e
   exact ⟨fun u hu=>(nZ.mp hu).elim (fun q=>q▸⟨i,t,rfl⟩) (ih.1 u),congrArg (i :: ·) ih.2⟩) hv.1
theorem du_bytes:∀ {es:List (AV×AV)} {kvs:List (U×Value)},DU P g ρ es kvs->∀ {bs:List (List UInt8)} {vs:List Value},bytesAll (keysOf es)=some bs->vs.length=kvs.length ->
  (∀ (j:Nat) v,vs[j]?=some v->∃ k x,kvs[j]?=some (k,x)/\isU k v=true)->(∀ v∈vs,isB v)/\vs.map keyB=bs
 | [],[],_,bs,[],hb,_,_=>⟨nofun,oJ hb⟩
 | [],[],_,_,_ :: _,_,hl,_=>nomatch hl
 | [],_ :: _,h,_,_,_,_,_=>h.elim
 | _ :: _,[],h,_,_,_,_,_=>h.elim
 | _ :: _,_ :: _,_,_,[],_,hl,_=>nomatch hl
 | e :: es,kv :: kvs,D,bs,x :: vs,hb,hl,hv=>bindE (hb:Option.bind _ _=some bs) fun i hi h=>mapE h fun js hj ej=>by
   have ih:=du_bytes D.2.2 hj (Nat.succ.inj hl) fun j v hj=>hv (j+1) v hj
   refine eX2 (hv 0 x rfl) fun k y qA9=>eD2 qA9 fun q hu=>?_
   obtain rfl:=oJ q
   have hx:∃ t,x=.bytes i.toArray t:=oBytes_e (C:=fun a=>uOf a=some k->∃ t,x=.bytes i.toArray t) hi (fun q=>by
    obtain rfl:=oJ q
    exact isU_e (C:=fun u v=>u=.b i->∃ t,v=.bytes i.toArray t) hu nofun nofun (fun b t e=>⟨t,U.b.inj e▸rfl⟩) rfl) D.1
   refine eX1 hx fun t eA10x1=>?_;obtain rfl:=eA10x1
   exact ⟨fun u hu=>(nZ.mp hu).elim (fun q=>q▸⟨i,t,rfl⟩) (ih.1 u),(congrArg (i :: ·) ih.2).trans ej⟩
end
section
variable {B:Base} {A:Around} {z:Z} {Q X:PostV}
theorem new_frozen (R:Rep B z) {h':Heap} (hk:∀ b o,z.s.heap.get? b=some o->h'.get? b=some o) {D:Nat} {o:Obj} (hD:z.N<=D) (ho:h'.get? D=some o) (nf:NF o) (t:Nat):∃ g',Go B none_ z ((z.put h' t).gr g')/\g'.get? D=some o:=by
 have g₁:=Go.push R hk (nU (nF hD (Heap.lt_size ho))) t
 have P:=(Priv.new R hD).put h' t
 refine eX1 (Go.freeze g₁.rep P.tab (fun i c p uu e=>P.ρ i p e) ho nf) fun g' qA11=>eD2 qA11 fun g₂ e=>?_
 exact ⟨g',g₁.trans g₂ (fun uu q=>q) fun a ha q=>absurd ha (nK.mpr (q▸hD)),e⟩
theorem listed {as:List AV} {its:Array Value} {c:Nat} {Qc:Value->Shared->Prop} (R:Rep B z) (hv:Vrs B z as its.toList) (hq:Q (.lst as) z.k z.σ) (hQ:∀ z' v,Go B none_ z z'->VEnd B Q z' v->Qc v z'.s) {h':Heap} (hk:∀ b o,z.s.heap.get? b=some o->h'.get? b=some o) {D:Nat} (hD:z.N<=D)
  (ho:h'.get? D=some (rowObj "list" its c)) (t:Nat):Qc (.ref D) (z.put h' t).s :=
 (new_frozen R hk hD ho (nf_of rfl rfl) t).elim fun g' q=>hQ ((z.put h' t).gr g') (.ref D) q.1 ⟨.lst as,⟨D,its,c,rfl,q.2,q.1.vrs hv⟩,hq⟩
theorem collect_row {vs:List Value} {l:Addr} {k:Nat} {E:Value->Shared->Prop} {R':List Value->Shared->Prop} (e:z.s.heap.get? l=some (rowObj "list" vs.toArray k)) (hl:vs.length < 1000) (hR:∀ h' tk,(∀ b o,z.s.heap.get? b=some o->h'.get? b=some o)->R' vs { z.s with heap:=h',toks:=tk }):wpAny (model B.prog B.w) A (collect (.ref l)) R' E z.s :=
 collect_list (vs:=vs) ⟨_,e,rfl,k,rfl⟩ (hR _ z.s.toks fun b o e'=>by
  rw [Heap.get?_update_ne _ _ _ _ (nH (Heap.lt_size e'))]
  exact Heap.get?_push_of_some _ e') (line_ok hl)
theorem sorted_bytes {x:Value} {as:List AV} {n:Nat} (R:Rep B z) (h:sortW as z.k z.σ Q)
  (hc:∀ bs,bytesAll as=some bs->as.length < 64->∀ (R:List Value->Shared->Prop) (E:Value->Shared->Prop),(∀ vs h' tk,((∀ v∈vs,isB v)/\vs.map keyB=bs)/\vs.length=as.length->(∀ b o,z.s.heap.get? b=some o->h'.get? b=some o)->R vs { z.s with heap:=h',toks:=tk })->wpAny (model B.prog B.w) A.in1 (collect x) R E z.s) :
  Runs B A z (call (.builtin "sorted") [x]) (VEnd B Q) X:=okE h fun bs hb h=>only h fun hl hq Qc E hQ uu =>
 sorted_gen (Pv:=fun vs=>((∀ v∈vs,isB v)/\vs.map keyB=bs)/\vs.length=as.length) byKind_oneLt (hc bs hb (blt_lt hl)) (fun vs hv=>⟨keysOf_all isB_key hv.1.1,fun v₁ v₂ rest e=>keyKind_bytes (e▸hv.1.1),hv.2▸blt_lt hl⟩)
  fun vs st' h' tk D e hv hk hD ho hp hs=>by
   refine eD3 (sorted_out isB_le isB_key hv.1.1 hp hs) fun q1 q2 q3=>?_
   exact listed R (sorted_eqB (hv.1.2▸q2) q3▸vrs_bytes q1) hq hQ hk hD ho tk
theorem sorted_ok {n:Nat} {fs:List Env} {a:AV} {v:Value} (F0:Facts0 B) (hk:(isK 101 a||isK 6 a)=true) (h:onSeq z.σ a (fun vs=>sortW vs z.k z.σ Q) fun kd es uu=>cond (Nat.beq kd 1) (sortW (keysOf es) z.k z.σ Q) False) (C:CxZ B A fs n z) (R:Rep B z) (hv:Vr B z a v) :
  Runs B A z (call (.builtin "sorted") [v]) (VEnd B Q) X:=by
 have row:∀ {as},RowZ B z "list" as v->sortW as z.k z.σ Q->Runs B A z (call (.builtin "sorted") [v]) (VEnd B Q) X:=fun {as} r h=>by
  obtain ⟨l,its,k,rfl,e,r⟩:=r
  exact sorted_bytes (n:=0) R h fun bs hb hl R' E hR=>collect_row (vs:=its.toList) (k:=k) (by rw [Array.toArray_toList];exact e) (vrs_length r▸Nat.lt_trans hl (by decide)) fun h' tk hk=>hR _ _ tk ⟨bytesAll_are hb r,(vrs_length r).symm⟩ hk
 refine seqE (C:=fun a=>(isK 101 a||isK 6 a)=true->Vr B z a v->Runs B A z (call (.builtin "sorted") [v]) (VEnd B Q) X) h (fun uu uu hk=>ff hk) (fun as h uu hv=>row (lst_row R hv) h) (fun i as hσ h uu hv=>row (cell_row R hσ hv) h) (fun i kd es ep hσ h uu hv=>only h fun h1 h=>?_) hk hv
 obtain ⟨p,hρ,rfl⟩:=hv
 obtain rfl:=nE h1
 have hs:=live_ne F0 R hσ hρ
 refine dictE (C:=fun p=>(p.1==sysModules)=false->Runs B A z (call (.builtin "sorted") [.ref p.1]) (VEnd B Q) X) R (R.cell _ _ p hσ hρ) (fun l kvs uu uu D U hs=>?_) (fun uu uu e=>nomatch e) hs
 exact sorted_bytes (n:=0) R h fun bs hb hl R' E hR=>by
  rw [keysOf,nY] at hl
  have hlen:=du_length U
  refine kdu_collect (kdl_dict (knd:=uKind B.prog B.w) (kvs:=kvs) hs) C.handled D (line_ok (hlen▸Nat.lt_trans hl (by decide))) fun h' tk acc hk hacc=>hR acc.toList _ tk ⟨du_bytes U hb (Array.length_toList.trans hacc.1) fun j v hj=>?_,Array.length_toList.trans (hacc.1.trans (hlen.trans (nY ..).symm))⟩ hk
  obtain ⟨k,x,e1,e2⟩:=hacc.2 j v (Array.getElem?_toList.symm.trans hj)
  exact ⟨k,x,e1,e2⟩
end
end
section
open PySem.SeqAt PySem.MeetsSeq PySem.Calls
theorem list_no_keys:typeLookup (.type "list") "keys"=pure none:=am_miss_of_fast (by decide +kernel)
theorem entry_upd_loop:entryFor table "dict.update.loop"=some Builtin.«dict.update.loop»:=entryFor_of_tree (by kernel_rfl)
theorem plain_upd_loop:plainId "dict.update.loop"=true:=by decide +kernel
section
variable {prog:Program} {w:World} {A:Around} {E:Value->Shared->Prop} {s:Shared}
theorem miss_keys {a:Addr} {xs:Array Value} {k:Nat} {Q:Option Value->Shared->Prop} (hx:s.heap.get? a=some (rowObj "list" xs k)) (hA:A.handled=none)
  (h:∀ h' tk,(∀ b o,s.heap.get? b=some o->h'.get? b=some o)->Q none { s with heap:=h',toks:=tk }) :
  wpAny (model prog w) A (getAttr? (.ref a) "keys") Q E s:=by
 have hmiss:=list_no_keys
 have hname:(["__module__","__name__","__qualname__","__doc__","__annotations__"]:List Str).contains "keys"=false:=by decide +kernel
 have hsz:("keys":Str).length+100<=sizeLine:=by rw [sizeLine_eq];decide +kernel
 obtain ⟨hp,g,d,tk,os⟩:=s
 have hT:∀ tk',(⟨hp,g,d,tk',os⟩:Shared).TypeIs (.ref a) "list":=fun uu=>⟨_,hx,rfl⟩
 have f1:=sub_AttributeError
 have f3:=F.slot_list_getattribute.lookup
 have f4:=F.slot_list_getattribute.bind (.ref a)
 have f5:=am_list_getattr_none
 skip
 repeat (any_goals (first | assumption | exact hT _ | ((with_reducible show wpAny _ _ (call (Value.builtin "list.__getattribute__") _ _) _ _ _);refine call_meets F.slot_list_getattribute (hT _) am_entry_list_getattribute (F.args_list_getattribute_2 _ _) (meets_getattribute_miss_list a xs k #[] "keys" _ hmiss hname hsz) ⟨hx,hA,fun h' tk' e hx'=>?_⟩) | wp_step))
 refine eX2 hx'.there fun t' u' he=>?_
 have hTe:∀ tk',(⟨h',g,d,tk',os⟩:Shared).TypeIs (.ref e) "AttributeError":=fun uu=>⟨_,he,rfl⟩
 skip
 unfold getattributeRaised
 repeat (any_goals (first | assumption | exact hTe _ | wp_step))
 exact h _ _ hx'.keeps
theorem oPair_e {a:AV} {p:AV×AV} {C:AV->Prop} (h:oPair a=some p) (f:∀ k b,p=(.int k,b)->C (.tup [.int k,b])):C a:=by
 cases a <;> first | exact nn h | skip
 rename_i vs
 cases vs with
 | nil=>exact nn h
 | cons x r=>cases r with
  | nil=>exact nn h
  | cons y q=>cases q with
   | cons=>exact nn h
   | nil=>cases x <;> first | exact nn h | exact f _ _ (oJ h).symm
theorem drop_vrs {P:Places} {g:Heap} {ρ:Rho} {a:AV} {as:List AV} {its:Array Value} {i:Nat} (h:VRs P g ρ (a :: as) (its.toList.drop i)):∃ x,its[i]?=some x/\VR P g ρ a x/\VRs P g ρ as (its.toList.drop (i+1)):=by
 cases q:its.toList.drop i with
 | nil=>rw [q] at h;exact h.elim
 | cons x xs =>
  rw [q] at h
  refine eD2 (drop_one q) fun q1 q2=>?_
  exact ⟨x,Array.getElem?_toList.symm.trans q1,h.1,q2▸h.2⟩
theorem dput_length (k v:AV):∀ es:List (AV×AV),(dput es k v).length<=es.length+1
 | []=>nB _
 | e :: es=>by
  unfold dput
  cases keyEq e.1 k with
  | true=>exact Nat.le_succ _
  | false=>exact Nat.succ_le_succ (dput_length k v es)
theorem dictOf_nodup {prog:Program} {w:World} {h:Heap} {D:Addr} {kvs:List (U×Value)} (hD:h.DictOf (uKind prog w) D kvs):(kvs.map (·.1)).Nodup:=let ⟨_,_,_,_,_,_,_,_,hn⟩:=hD;hn
theorem upd_pairs {P:Places} {g:Heap} {ρ:Rho} {I D l:Addr} {items:Array Value} {R:Result->Shared->Prop} (hh:A.handled=none) (hID:I≠D) (hlI:l≠I) (hlD:l≠D) (gI:g.get? I=none) (gD:g.get? D=none) :
  ∀ (as:List AV) (ps:List (AV×AV)) (i:Nat) (s:Shared) (es:List (AV×AV)) (kvs:List (U×Value)) (t:Tok),pairsAll as=some ps->VRs P g ρ as (items.toList.drop i)->(∀ b o,g.get? b=some o->s.heap.get? b=some o) ->
   s.heap.IsListIter I l i->s.heap.IsList l items->s.heap.DictOf (uKind prog w) D kvs->DU P g ρ es kvs->(∀ e∈es,keyKind e.1=0)->es.length+as.length<=2000 ->
   (∀ h' tk kvs',(∀ b o,b≠I->b≠D->s.heap.get? b=some o->h'.get? b=some o)->h'.DictOf (uKind prog w) D kvs'->DU P g ρ (ps.foldl (fun es p=>dput es p.1 p.2) es) kvs' ->
    (∀ e∈ps.foldl (fun es p=>dput es p.1 p.2) es,keyKind e.1=0)->R (.ok (.ret .none)) { s with heap:=h',toks:=tk }) ->
   codeAny (model prog w) A (.builtin "dict.update.loop" ⟨[.ref D,.ref I,.int i t,.none],[]⟩) R s
 | [],ps,i,s,es,kvs,t,hps,hv,hg,hit,hl,hD,du,hk,hlen,hR=>by
  obtain rfl:=oJ hps
  have hx:items[i]?=none:=by
   rw [<- Array.getElem?_toList]
   exact List.getElem?_eq_none (List.drop_eq_nil_iff.mp (List.eq_nil_of_length_eq_zero (vrs_length hv).symm))
  refine codeAny_builtin entry_upd_loop ?_
  rw [Around.under_plainId plain_upd_loop _]
  skip
  refine nE1 (wpAny_pyNext_list_end (by exact hh) hit hl hx fun h' q1=>?_)
  refine nE1 (m:=Builtin.Dict.addKeywords D []) (nF1 ?_)
  exact nF1 (hR h' s.toks kvs (fun b o b1 uu e=>q1 b o b1 e) (hD.extBut q1 (Ne.symm hID)) du hk)
 | a :: as,ps,i,s,es,kvs,t,hps,hv,hg,hit,hl,hD,du,hk,hlen,hR=>by
  refine eX1 (drop_vrs hv) fun x qA3=>eD3 qA3 fun hx rx rs=>?_
  refine bindE hps fun p hp hps=>mapE hps fun qs hqs eqs=>?_
  subst eqs
  refine oPair_e (C:=fun a=>VR P g ρ a x->_) hp (fun k b ep rx=>?_) rx
  subst ep
  refine eX3 rx fun y its n qA4=>eD3 qA4 fun eA4x3 e r=>?_;obtain rfl:=eA4x3
  obtain ⟨u,v,hits,rb⟩:∃ u v,its=#[.int k u,v]/\VR P g ρ b v:=by
   obtain ⟨li⟩:=its
   cases li with
   | nil=>exact r.elim
   | cons w1 li =>
    cases li with
    | nil=>exact r.2.elim
    | cons w2 li =>
     cases li with
     | cons=>exact r.2.2.elim
     | nil=>exact r.1.elim fun u e=>⟨u,w2,e▸rfl,r.2.1⟩
  subst hits
  refine codeAny_builtin entry_upd_loop ?_
  rw [Around.under_plainId plain_upd_loop _]
  skip
  refine nE1 (wpAny_pyNext_list_item hit hl hx fun h₁ q1 q2=>?_)
  have gy:∀ b o,g.get? b=some o->h₁.get? b=some o:=fun b o e=>(q2.2 b fun h=>nn (gI.symm.trans (h▸e))).trans (hg _ _ e)
  have hT:Shared.TypeIs { s with heap:=h₁ } (.ref y) "tuple":=⟨_,gy _ _ e,rfl⟩
  have hD₁:h₁.DictOf (uKind prog w) D kvs:=hD.extBut q2.extBut (Ne.symm hID)
  have hkl:kvs.length=es.length:=du_length du
  have hl1:es.length+1+as.length<=2000:=Nat.succ_add_eq_add_succ es.length as.length▸hlen
  refine nE1 (nG1 ?_)
  refine nE1 (m:=MonadExcept.tryCatch (Builtin.Dict.pairItems (.ref y)) _) (wpAny_tryCatch ?_)
  skip
  refine nE1 (wpAny_typeOf hT ?_)
  rw [if_pos (by decide)]
  refine nE1 (wpAny_seqItems (gy _ _ e) rfl (nF1 ?_))
  skip
  refine nG1 (wpAny_dictSet_pairs (knd:=uKind prog w) (k:=U.i k) (beq_self_eq_true k) hD₁ (fun h₂ hD₂ q3=>?_) (hkl▸nA (nA (nP _ 1) (nA (nP _ _) hl1)) (by decide)))
  refine nF1 ⟨plainId_quiet plain_upd_loop _,?_⟩
  have hl₂:h₂.IsList l items:=hl.imp fun o q=>⟨(q3.2 l hlD).trans ((q2.2 l hlI).trans q.1),q.2⟩
  have hit₂:h₂.IsListIter I l (i+1):=q1.imp fun o q=>⟨(q3.2 I hID).trans q.1,q.2⟩
  refine upd_pairs hh hID hlI hlD gI gD as qs (i+1) { s with heap:=h₂,toks:=_ } (dput es (.int k) b) _ _ hqs rs (fun b o e=>(q3.2 b fun h=>nn (gD.symm.trans (h▸e))).trans (gy _ _ e)) hit₂ hl₂ hD₂ (du_put rfl rb du (dictOf_nodup hD)) (kinds_put rfl hk) (nA (Nat.add_le_add_right (dput_length _ _ _) _) hl1) fun h' tk kvs' k1 k2 k3 k4=>?_
  exact hR h' tk kvs' (fun b o b1 b2 e=>k1 b o b1 b2 ((q3.2 b b2).trans ((q2.2 b b1).trans e))) k2 k3 k4
theorem call_dict_pairs {P:Places} {g:Heap} {ρ:Rho} {l:Addr} {items:Array Value} {n:Nat} {as:List AV} {ps:List (AV×AV)} {Q:Value->Shared->Prop} (hh:A.handled=none) (hps:pairsAll as=some ps) (hl:g.get? l=some (rowObj "list" items n)) (hv:VRs P g ρ as items.toList) (hlen:as.length < 1000) (hg:∀ b o,g.get? b=some o->s.heap.get? b=some o)
  (hQ:∀ h' tk kvs',(∀ b o,s.heap.get? b=some o->h'.get? b=some o)->h'.DictOf (uKind prog w) s.heap.objs.size kvs'->DU P g ρ (ps.foldl (fun es p=>dput es p.1 p.2) []) kvs' ->
    (∀ e∈ps.foldl (fun es p=>dput es p.1 p.2) [],keyKind e.1=0)->Q (.ref s.heap.objs.size) { s with heap:=h',toks:=tk }) :
  wpAny (model prog w) A (call (.type "dict") [.ref l]) Q E s:=by
 refine callType_codes (Q₁:=fun obj s₁=>obj=.ref s.heap.objs.size/\s₁={ s with heap:=s.heap.push { cls:=.type "dict",data:=.dict #[] } }) F.kt_called_dict (F.kt_typeCall_dict_1 _) F.entry_dict_init (kt_code_dict_new _ ⟨rfl,rfl⟩) ?_
 rintro obj s₁ ⟨rfl,rfl⟩
 have hnew:(s.heap.push { cls:=.type "dict",data:=.dict #[] }).DictOf (uKind prog w) s.heap.objs.size []:=Heap.DictOf.new s.heap
 have hl₀:=hg _ _ hl
 have hl₁:(s.heap.push { cls:=.type "dict",data:=.dict #[] }).get? l=some (rowObj "list" items n):=Heap.get?_push_of_some _ hl₀
 have hlt:=Heap.lt_size hl₀
 refine ⟨hnew.typeIs,F.args_dict_init_2 _ _,?_⟩
 skip
 refine nE1 ?_
 skip
 refine nE1 (wpAny_notOrdered_dict hnew.typeIs ?_)
 skip
 refine nF1 ?_
 skip
 skip
 refine nE1 (wpAny_typeOf (T:="list") ⟨_,hl₁,rfl⟩ ?_)
 rw [if_pos (by decide)]
 refine nE1 (sized (miss_keys hl₁ (by exact hh) fun h₂ tk₂ k₂ z₂=>?_))
 rw [if_pos (show (none:Option Value).isNone=true from rfl)]
 refine nE1 (wpAny_rule ?_)
 have hlI:h₂.IsList l items:=⟨_,k₂ _ _ hl₁,rfl,n,rfl⟩
 have z₂:(s.heap.push { cls:=.type "dict",data:=.dict #[] }).objs.size<=h₂.objs.size:=z₂
 rw [Heap.size_push] at z₂
 refine nE1 (wpAny_pyIter_list (s:={ s with heap:=h₂,toks:=tk₂ }) hlI ?_)
 refine nF1 ⟨plainId_quiet plain_upd_loop _,?_⟩
 have gn:∀ a,s.heap.objs.size<=a->g.get? a=none:=fun a ha=>by
  cases q:g.get? a with
  | none=>rfl
  | some o=>exact absurd (Heap.lt_size (hg _ _ q)) (nK.mpr ha)
 have hD₂:h₂.DictOf (uKind prog w) s.heap.objs.size []:=let ⟨o,es,ep,e,r⟩:=hnew;⟨o,es,ep,k₂ _ _ e,r⟩
 refine upd_pairs (P:=P) (g:=g) (ρ:=ρ) (l:=l) (items:=items) (by exact hh) (Nat.ne_of_gt (Nat.lt_of_succ_le z₂)) (nH (nD hlt (nO z₂))) (nH hlt) (gn _ (nO z₂)) (gn _ (nB _)) as ps 0 _ [] [] 0 hps hv
  (fun b o e=>Heap.get?_push_of_some _ (k₂ _ _ (Heap.get?_push_of_some _ (hg _ _ e)))) ⟨_,Heap.get?_push_size _ rfl,rfl,rfl⟩ (hlI.push _) (hD₂.push _) trivial nofun (nA (nG (Nat.zero_add _)) (nA (nU hlen) (by decide))) fun h' tk kvs' k1 k3 k4 k5=>?_
 refine ⟨rfl,hQ h' tk kvs' (fun b o e=>k1 b o (nH (nD (Heap.lt_size e) (nO z₂))) (nH (Heap.lt_size e)) (Heap.get?_push_of_some _ (k₂ _ _ (Heap.get?_push_of_some _ e)))) k3 k4 k5⟩
end
section
variable {B:Base} {A:Around} {z:Z} {Q X:PostV} {n:Nat} {fs:List Env} {args:List AV} {vs:List Value}
theorem oneV {c:AV->Prop} {C:List Value->Prop} (h:oneP args c) (hv:Vrs B z args vs) (f:∀ a v,c a->Vr B z a v->C [v]):C vs:=by
 refine oneE (C:=fun args=>Vrs B z args vs->C vs) h (fun a h hv=>?_) hv
 cases vs with
 | nil=>exact hv.elim
 | cons v vs =>
  cases vs with
  | cons=>exact hv.2.elim
  | nil=>exact f a v h hv.1
theorem list_ok (h:oneP args fun a=>onRow z.σ a fun vs=>few vs (Q (.lst vs) z.k z.σ)) (R:Rep B z) (hv:Vrs B z args vs):Runs B A z (call (.type "list") vs) (VEnd B Q) X :=
 oneV (C:=fun vs=>Runs B A z (call (.type "list") vs) (VEnd B Q) X) h hv fun a v h hv=>rowZ R h hv fun as r h=>fewE h fun hl hq Qc E hQ uu=>by
  obtain ⟨l,its,k,rfl,e,r⟩:=r
  exact call_list_seq l (.inl rfl) e rfl rfl (fun h' c' hk ho=>listed R r hq hQ hk (nB _) ho z.s.toks) (line_ok (row_len r▸hl))
theorem range_ok (h:consP args fun a r=>asInt a fun x=>smallC x (r.casesOn (Q (.rng 0 x 1) z.k z.σ) fun b r=>oneP r fun c=>int2 b c fun y d=>smallC y (cond (Nat.blt d.natAbs 1000&&!decide (d=0)) (Q (.rng x y d) z.k z.σ) False))) (R:Rep B z) (hv:Vrs B z args vs):Runs B A z (call (.type "range") vs) (VEnd B Q) X:=by
 have go:∀ (a b c:Int) (t u v:Tok) (Qc:Value->Shared->Prop) (tk:Nat),Q (.rng a b c) z.k z.σ->(∀ z' v,Go B none_ z z'->VEnd B Q z' v->Qc v z'.s) ->
   Qc (.ref z.s.heap.objs.size) { z.s with heap:=z.s.heap.push { cls:=.type "range",data:=.fields #[.int a t,.int b u,.int c v] },toks:=tk }:=fun a b c t u v Qc tk hq hQ =>
  (Go.frozen R { cls:=.type "range",data:=.fields #[.int a t,.int b u,.int c v] } rfl (nf_of rfl rfl) tk).elim fun g' q=>hQ ((z.put _ tk).gr g') _ q.1 ⟨.rng a b c,⟨_,t,u,v,rfl,q.2⟩,hq⟩
 refine consE (C:=fun args=>Vrs B z args vs->_) h (fun a r h hv=>?_) hv
 cases vs with
 | nil=>exact hv.elim
 | cons v vs =>
  refine vInt (C:=fun v=>Runs B A z (call (.type "range") (v :: vs)) (VEnd B Q) X) h hv.1 fun x t h=>smallE h fun hx h=>?_
  cases r with
  | nil =>
   cases vs with
   | cons=>exact hv.2.elim
   | nil=>exact fun Qc E hQ uu=>call_range_1 (go 0 _ 1 _ _ _ Qc _ h hQ)
  | cons b r =>
   cases vs with
   | nil=>exact hv.2.elim
   | cons v2 vs =>
    refine oneV (C:=fun vs=>Runs B A z (call (.type "range") (.int x t :: v2 :: vs)) (VEnd B Q) X) h hv.2.2 fun c v3 h h3=>vInt2 (C:=fun v2 v3=>Runs B A z (call (.type "range") [.int x t,v2,v3]) (VEnd B Q) X) h hv.2.1 h3 fun y t2 d t3 h=>smallE h fun hy h=>only h fun hd h=>band hd fun hd1 hd2 Qc E hQ uu=>?_
    exact call_range_3 (of_decide_eq_false (bnot hd2)) (go _ _ _ _ _ _ Qc z.s.toks h hQ) (.inl (PyProof.noPylong_small (by have:=blt_lt hd1;exact om14 this rfl)))
theorem dict_ok (h:oneP args fun a=>asLst a fun vs=>okO (pairsAll vs) fun ps=>few vs (∀ ep,Q (.cell z.k) (z.k+1) (upd z.σ z.k (.dict 0 (ps.foldl (fun es p=>dput es p.1 p.2) []) ep)))) (C:CxZ B A fs n z) (R:Rep B z) (hv:Vrs B z args vs):Runs B A z (call (.type "dict") vs) (VEnd B Q) X :=
 oneV (C:=fun vs=>Runs B A z (call (.type "dict") vs) (VEnd B Q) X) h hv fun a v h hv=>lstA (C:=fun a=>Vr B z a v->Runs B A z (call (.type "dict") [v]) (VEnd B Q) X) h (fun as h hv=>okE h fun ps hps h=>fewE h fun hl hq Qc E hQ uu=>by
  refine eX3 hv fun l its k qA7=>eD3 qA7 fun eA7x3 e r=>?_;obtain rfl:=eA7x3
  refine sized (call_dict_pairs (P:=B.P) (g:=z.g) (ρ:=z.ρ) C.handled hps e r hl R.stays fun h' tk kvs' k1 k2 k3 k4 hz=>?_)
  refine eX1 (dictU_cell (z:=z) (t:=tk) (by decide:0 < 3) k4 k2 k3) fun ep hc=>?_
  exact hQ ((z.put h' tk).more (z.N,none) _) _ (Go.made R (p:=(z.N,none)) k1 hz (fun a ha=>nG (at1 ha).symm) tk hc) ⟨.cell z.k,⟨_,if_pos rfl,rfl⟩,hq ep⟩) hv
theorem int_ok (h:oneP args fun a=>asInt a fun i=>Q (.int i) z.k z.σ) (R:Rep B z) (hv:Vrs B z args vs):Runs B A z (call (.type "int") vs) (VEnd B Q) X :=
 oneV (C:=fun vs=>Runs B A z (call (.type "int") vs) (VEnd B Q) X) h hv fun a v h hv=>vInt (C:=fun v=>Runs B A z (call (.type "int") [v]) (VEnd B Q) X) h hv fun i t h=>Runs.ret (a:=.int i) R h fun Qc E hQ=>call_int_int (hQ z.s.toks _ ⟨t,rfl⟩)
theorem tuple_ok (h:oneP args fun a=>asTup a fun vs=>Q (.tup vs) z.k z.σ) (R:Rep B z) (hv:Vrs B z args vs):Runs B A z (call (.type "tuple") vs) (VEnd B Q) X :=
 oneV (C:=fun vs=>Runs B A z (call (.type "tuple") vs) (VEnd B Q) X) h hv fun a v h hv=>tupA (C:=fun a=>Vr B z a v->Runs B A z (call (.type "tuple") [v]) (VEnd B Q) X) h (fun as h hv=>Runs.ret (a:=.tup as) R h fun Qc E hQ=>by
  have hv':=hv
  refine eX3 hv fun l its k qA9=>eD3 qA9 fun eA9x3 e r=>?_;obtain rfl:=eA9x3
  exact call_tuple_same ⟨_,R.stays _ _ e,rfl,k,rfl⟩ (hQ z.s.toks _ hv')) hv
end
end
section
open PySem.SeqAt PySem.MeetsSeq PySem.Calls
theorem erase_perm {α:Type}:∀ (l:List α) (i:Nat) (h:i < l.length),(l[i] :: l.eraseIdx i).Perm l:=fun l=>by
 induction l with
 | nil=>exact fun i h=>absurd h (nW i)
 | cons x r ih =>
  intro i
  refine Nat.rec (fun uu=>.refl _) (fun i uu h=>?_) i
  exact (List.Perm.swap _ _ _).trans ((ih i (Nat.lt_of_succ_lt_succ h)).cons x)
theorem pick_go {α:Type} (next:Nat->Nat) (fuel:Nat):∀ (k:Nat) (left:List α) (out:Array α),left.length<=fuel->(pickOrder.go next fuel k left out).toList.Perm (out.toList ++ left):=by
 induction fuel with
 | zero =>
  intro k left out h
  obtain rfl:=List.length_eq_zero_iff.mp (Nat.le_zero.mp h)
  exact (List.append_nil out.toList).symm▸.refl _
 | succ fuel ih =>
  intro k left out h
  show (match left[next k % left.length]? with | some x=>pickOrder.go next fuel (k+1) (left.eraseIdx (next k % left.length)) (out.push x) | none=>out).toList.Perm (out.toList ++ left)
  cases hx:left[next k % left.length]? with
  | some x =>
   obtain ⟨hj,hxe⟩:=List.getElem?_eq_some_iff.mp hx
   refine (ih (k+1) _ _ (by rw [List.length_eraseIdx_of_lt hj];exact om87 h)).trans ?_
   rw [Array.toList_push,List.append_assoc]
   exact List.Perm.append_left _ (hxe▸erase_perm _ _ hj)
  | none =>
   have:=List.getElem?_eq_none_iff.mp hx
   obtain rfl:left=[]:=List.length_eq_zero_iff.mp ((Nat.eq_zero_or_pos left.length).resolve_right fun h=>nK.mpr this (Nat.mod_lt (next k) h))
   exact (List.append_nil out.toList).symm▸.refl _
theorem pick_perm {α:Type} (next:Nat->Nat) (xs:Array α):(pickOrder next xs).toList.Perm xs.toList:=pick_go next xs.size 0 xs.toList #[] (nB _)
theorem iteP {α:Type} {P:α->Prop} {c:Prop} [Decidable c] {a b:α} (h1:c->P a) (h2:¬c->P b):P (if c then a else b):=by
 by_cases h:c
 ·rw [if_pos h];exact h1 h
 ·rw [if_neg h];exact h2 h
noncomputable def BG (xs:Array Nat) (j r:Nat):Prop:=r<=xs.size/\(∀ k,k < r->xs.getD k 0 < j)/\∀ k,r<=k->k < xs.size->j<=xs.getD k 0
theorem below_go (xs:Array Nat) (j:Nat) (hm:∀ a b,a<=b->b < xs.size->xs.getD a 0<=xs.getD b 0) (hd:∀ a d e,a < xs.size->xs.getD a d=xs.getD a e) (fuel:Nat):∀ (lo hi:Nat),lo<=hi->hi<=xs.size->hi - lo<=fuel->(∀ k,k < lo->xs.getD k 0 < j)->(∀ k,hi<=k->k < xs.size->j<=xs.getD k 0) ->
  BG xs j (SetTable.below.go xs j fuel lo hi):=by
 induction fuel with
 | zero =>
  intro lo hi h1 h2 h3 h4 h5
  obtain rfl:lo=hi:=om88 h1 h3
  exact ⟨h2,h4,h5⟩
 | succ fuel ih =>
  intro lo hi h1 h2 h3 h4 h5
  refine iteP (P:=BG xs j) (fun hlt=>iteP (fun q=>?_) fun q=>?_) fun q=>?_
  ·exact ih _ _ (om80 hlt) h2 (om84 h3) (fun k hk=>nF (hm k _ (om87 hk) (om82 h2 hlt)) (hd _ j 0 (om82 h2 hlt)▸q)) h5
  ·exact ih _ _ (om81 h1) (om86 h1 h2) (om85 h3) h4 fun k hk hk2=>nA (hd _ j 0 (om82 h2 hlt)▸nK.mp q) (hm _ k hk hk2)
  ·exact ⟨nA h1 h2,h4,fun k hk=>h5 k (nA (nK.mp q) hk)⟩
theorem below_at {xs:Array Nat} (hp:xs.toList.Pairwise (· < ·)) {i:Nat} (hi:i<=xs.size):SetTable.below xs (if i=0 then 0 else xs.getD (i - 1) 0+1)=i:=by
 have lt:∀ a b,a < b->b < xs.size->xs.getD a 0 < xs.getD b 0:=fun a b hab hb=>by
  have:=List.pairwise_iff_getElem.mp hp a b (by rw [Array.length_toList];exact om69 hab hb) (by rw [Array.length_toList];exact hb) hab
  simpa [Array.getD,hb,show a < xs.size by omega] using this
 have hm:∀ a b,a<=b->b < xs.size->xs.getD a 0<=xs.getD b 0:=fun a b hab hb=>by
  rcases Nat.lt_or_ge a b with h | h
  ·exact nU (lt a b h hb)
  ·have:a=b:=by exact om67 hab h
   subst this;exact nB _
 have hd:∀ a d e,a < xs.size->xs.getD a d=xs.getD a e:=fun a d e ha=>by simp [Array.getD,ha]
 obtain ⟨r1,r2,r3⟩:=below_go xs (if i=0 then 0 else xs.getD (i - 1) 0+1) hm hd xs.size 0 xs.size (nV _) (nB _) (by exact nB _) (fun k hk=>by omega) (fun k h1 h2=>by omega)
 show SetTable.below.go xs _ xs.size 0 xs.size=i
 generalize SetTable.below.go xs _ xs.size 0 xs.size=r at r1 r2 r3 ⊢
 by_cases h0:i=0
 ·subst h0
  rw [if_pos rfl] at r2 r3
  rcases Nat.eq_zero_or_pos r with h | h
  ·exact h
  ·exact absurd (r2 0 h) (nW _)
 ·rw [if_neg h0] at r2 r3
  rcases Nat.lt_trichotomy r i with h | h | h
  ·have:=r3 r (nB _) (by exact om63 h hi)
   have:=hm r (i - 1) (by exact om77 h) (by exact om79 hi h0)
   omega
  ·exact h
  ·have:=r2 i h
   have:=lt (i - 1) i (by exact om78 h0) (by exact om63 h r1)
   omega
theorem slot_setiter_next:Slot "set_iterator" "__next__" "set_iterator.__next__" :=
 .of (owner:="set_iterator") (n:="__next__") (by rw [typeLookup_type,builtinLookup_eq_fast];kernel_rfl) (by decide +kernel) (by decide +kernel) (by decide +kernel)
  (by first | exact .inl (by decide +kernel) | exact .inr (by decide +kernel)) (by rw [isSubtype_type];kernel_rfl)
theorem entry_setiter_next:entryFor table "set_iterator.__next__"=some Builtin.«set_iterator.__next__»:=entryFor_of_tree (by kernel_rfl)
theorem args_setiter_next (a:Value):argsOk "set_iterator.__next__" ⟨[a],[]⟩:=by unfold argsOk;kernel_rfl
theorem slot_setiter_iter:Slot "set_iterator" "__iter__" "set_iterator.__iter__" :=
 .of (owner:="set_iterator") (n:="__iter__") (by rw [typeLookup_type,builtinLookup_eq_fast];kernel_rfl) (by decide +kernel) (by decide +kernel) (by decide +kernel)
  (by first | exact .inl (by decide +kernel) | exact .inr (by decide +kernel)) (by rw [isSubtype_type];kernel_rfl)
theorem entry_set_iter:entryFor table "set.__iter__"=some Builtin.«frozenset.__iter__» :=
 entryFor_alias (id':="frozenset.__iter__") (by kernel_rfl) rfl (by decide +kernel) (by kernel_rfl)
structure SetAt (w:World) (h:Heap) (a:Addr) (es:Array (Int×Value)) (ep:Nat) (t:SetTable):Prop where
 at_:h.get? a=some { cls:=.type "set",data:=.set es ep t }
 fits:t.fits es.size=true
 led:t.led=!w.params.followText "set-order"
 plain:t.plain=true
 rise:t.place.toList.Pairwise (· < ·)
noncomputable def ordOf (w:World) (a:Addr) (ep:Nat) (es:Array (Int×Value)):List Value :=
 match w.params.followText "set-order" with
 | true=>(pickOrder (w.params.setOrder a ep) es).toList.map (·.2)
 | false=>es.toList.map (·.2)
noncomputable def slotOf (w:World) (t:SetTable) (i:Nat):Nat :=
 match w.params.followText "set-order" with
 | true=>0
 | false=>if i=0 then 0 else t.place.getD (i - 1) 0+1
theorem ordOf_perm (w:World) (a:Addr) (ep:Nat) (es:Array (Int×Value)):(ordOf w a ep es).Perm (es.toList.map (·.2)):=by
 unfold ordOf
 split
 ·exact (pick_perm _ _).map _
 ·exact .refl _
noncomputable def setIt (w:World) (a:Addr) (n ep:Nat) (t:SetTable) (i:Nat):Obj:={ cls:=.type "set_iterator",data:=.fields #[.int (slotOf w t i) 0,.int i 0,.ref a,.int n 0,.int ep 0] }
section
variable {prog:Program} {w:World} {A:Around} {E:Value->Shared->Prop} {s:Shared} {a I:Addr} {es:Array (Int×Value)} {ep:Nat} {t:SetTable} {i:Nat}
theorem setNext_item {v:Value} {Q:Option (Value×Nat)->Shared->Prop} (S:SetAt w s.heap a es ep t) (hv:(ordOf w a ep es)[i]?=some v) (hQ:Q (some (v,slotOf w t (i+1))) s) :
  wpAny (model prog w) A (setNext a (slotOf w t i) i ep) Q E s:=by
 obtain ⟨h1,h2,h3,h4,h5⟩:=S
 obtain ⟨mask,place,dummies,finger,led,moves,plain⟩:=t
 simp only at h3 h4 h5
 subst h4
 unfold setNext
 refine nE1 (wpAny_setState_of h1 rfl h2 ?_)
 unfold setsByText
 refine nE1 (nE1 (wpAny_askSetting (nF1 ?_)))
 unfold ordOf slotOf at *
 cases hb:w.params.followText "set-order" with
 | true =>
  rw [hb] at hv hQ
  refine nH1 (fun uu=>?_) fun hab=>absurd hb hab
  rw [if_neg (by simp)]
  unfold setWalk
  refine nE1 ?_
  refine nE1 (wpAny_setState_of h1 rfl h2 ?_)
  unfold setsByText
  refine nE1 (nE1 (wpAny_askSetting (nF1 ?_)))
  refine nH1 (fun uu=>?_) fun hab=>absurd hb hab
  refine nE1 (wpAny_askSetting (nF1 ?_))
  dsimp only at hv hQ ⊢
  rw [List.getElem?_map,Array.getElem?_toList,Option.map_eq_some_iff] at hv
  obtain ⟨e,he,rfl⟩:=hv
  refine nF1 ?_
  rw [show ((model prog w).w.params.setOrder a ep)=w.params.setOrder a ep from rfl,he]
  exact hQ
 | false =>
  rw [hb] at hv hQ h3
  refine nH1 (fun hab=>absurd (hb.symm.trans hab) (by simp)) fun uu=>?_
  refine nH1 (fun hab=>Bool.noConfusion (show false=true from hab)) fun uu=>?_
  have h3:led=true:=h3
  subst h3
  refine nE1 ?_
  refine nH1 (fun hab=>Bool.noConfusion (show false=true from hab)) fun uu=>nF1 ?_
  have hps:place.size=es.size:=by
   simp only [SetTable.fits,Bool.and_eq_true,beq_iff_eq] at h2
   exact h2.1
  dsimp only at hv hQ ⊢
  rw [List.getElem?_map,Array.getElem?_toList,Option.map_eq_some_iff] at hv
  obtain ⟨e,he,rfl⟩:=hv
  have hi:i < es.size:=(Array.getElem?_eq_some_iff.mp he).1
  have hp:place[i]?=some place[i]:=Array.getElem?_eq_getElem (by exact om64 hps hi)
  rw [below_at h5 (by exact om65 hps hi),he,hp]
  refine nF1 ?_
  rw [if_neg (Nat.succ_ne_zero i),Nat.add_sub_cancel] at hQ
  have hg:place.getD i 0=place[i]:=by simp [Array.getD,show i < place.size by omega]
  rw [hg] at hQ
  exact hQ
theorem setNext_end {Q:Option (Value×Nat)->Shared->Prop} (S:SetAt w s.heap a es ep t) (hQ:Q none s) :
  wpAny (model prog w) A (setNext a (slotOf w t es.size) es.size ep) Q E s:=by
 obtain ⟨h1,h2,h3,h4,h5⟩:=S
 obtain ⟨mask,place,dummies,finger,led,moves,plain⟩:=t
 simp only at h3 h4 h5
 subst h4
 unfold setNext
 refine nE1 (wpAny_setState_of h1 rfl h2 ?_)
 unfold setsByText
 refine nE1 (nE1 (wpAny_askSetting (nF1 ?_)))
 unfold slotOf at *
 cases hb:w.params.followText "set-order" with
 | true =>
  refine nH1 (fun uu=>?_) fun hab=>absurd hb hab
  rw [if_neg (by simp)]
  unfold setWalk
  refine nE1 ?_
  refine nE1 (wpAny_setState_of h1 rfl h2 ?_)
  unfold setsByText
  refine nE1 (nE1 (wpAny_askSetting (nF1 ?_)))
  refine nH1 (fun uu=>?_) fun hab=>absurd hb hab
  refine nE1 (wpAny_askSetting (nF1 ?_))
  refine nF1 ?_
  have:(pickOrder ((model prog w).w.params.setOrder a ep) es)[es.size]?=none:=by
   refine Array.getElem?_eq_none ?_
   have:=(pick_perm ((model prog w).w.params.setOrder a ep) es).length_eq
   simp only [Array.length_toList] at this
   exact om66 this.symm
  dsimp only
  rw [this];exact hQ
 | false =>
  rw [hb] at h3
  refine nH1 (fun hab=>absurd (hb.symm.trans hab) (by simp)) fun uu=>?_
  refine nH1 (fun hab=>Bool.noConfusion (show false=true from hab)) fun uu=>?_
  have h3:led=true:=h3
  subst h3
  refine nE1 ?_
  refine nH1 (fun hab=>Bool.noConfusion (show false=true from hab)) fun uu=>nF1 ?_
  have hps:place.size=es.size:=by
   simp only [SetTable.fits,Bool.and_eq_true,beq_iff_eq] at h2
   exact h2.1
  dsimp only
  rw [below_at h5 (by exact om66 hps),Array.getElem?_eq_none (by exact nB _)]
  exact nF1 hQ
theorem item_set {v:Value} {Q:Option Value->Shared->Prop} (S:SetAt w s.heap a es ep t) (hI:s.heap.get? I=some (setIt w a es.size ep t i)) (hv:(ordOf w a ep es)[i]?=some v)
  (hQ:∀ h',h'.get? I=some (setIt w a es.size ep t (i+1))->Heap.SameBut I s.heap h'->Q (some v) { s with heap:=h' }):wpAny (model prog w) A (pyNext (.ref I)) Q E s:=by
 have hT:s.TypeIs (.ref I) "set_iterator":=⟨_,hI,rfl⟩
 unfold pyNext
 refine nE1 (wpAny_attempt (wpAny_callSpecial?_slot (name:=Str.ofString "__next__") hT slot_setiter_next
  (wpAny_call_entry slot_setiter_next hT entry_setiter_next ?_ (args_setiter_next _))))
 refine nE1 (nF1 (nE1 (wpAny_fieldsOf hI rfl ?_)))
 show wpAny _ _ (setEntries a >>= _) _ _ s
 refine nE1 (wpAny_setEntries_of S.at_ rfl S.fits ?_)
 rw [if_neg (by simp)]
 show wpAny _ _ (setNext a (slotOf w t i) i ep >>= _) _ _ s
 refine nE1 (setNext_item S hv ?_)
 show wpAny _ _ (setField (.ref I) 0 (rawInt (slotOf w t (i+1))) >>= _) _ _ s
 refine nE1 (wpAny_setField hI rfl (by simp) ?_)
 have hI₁:=Heap.get?_update_self (Obj.mapFields (·.setIfInBounds 0 (rawInt (slotOf w t (i+1))))) hI (Obj.isFreed_of_fields (Obj.data_mapFields (o:=setIt w a es.size ep t i) rfl _))
 show wpAny _ _ (setField (.ref I) 1 (rawInt ((i:Int)+1)) >>= _) _ _ _
 refine nE1 (wpAny_setField hI₁ rfl (by simp [setIt,Obj.mapFields]) ?_)
 have hI₂:=Heap.get?_update_self (Obj.mapFields (·.setIfInBounds 1 (rawInt ((i:Int)+1)))) hI₁ (Obj.isFreed_of_fields (Obj.data_mapFields (o:=Obj.mapFields (·.setIfInBounds 0 (rawInt (slotOf w t (i+1)))) (setIt w a es.size ep t i)) rfl _))
 refine nF1 ⟨_,rfl,nF1 (hQ _ ?_ ((Heap.SameBut.update ..).trans (Heap.SameBut.update ..)))⟩
 exact hI₂
theorem end_set {Q:Option Value->Shared->Prop} (hh:A.handled=none) (S:SetAt w s.heap a es ep t) (hI:s.heap.get? I=some (setIt w a es.size ep t es.size))
  (hQ:∀ h',Heap.ExtBut I s.heap h'->Q none { s with heap:=h' }):wpAny (model prog w) A (pyNext (.ref I)) Q E s:=by
 have hT:s.TypeIs (.ref I) "set_iterator":=⟨_,hI,rfl⟩
 unfold pyNext
 refine nE1 (wpAny_attempt (wpAny_callSpecial?_slot (name:=Str.ofString "__next__") hT slot_setiter_next
  (wpAny_call_entry slot_setiter_next hT entry_setiter_next ?_ (args_setiter_next _))))
 refine nE1 (nF1 (nE1 (wpAny_fieldsOf hI rfl ?_)))
 show wpAny _ _ (setEntries a >>= _) _ _ s
 refine nE1 (wpAny_setEntries_of S.at_ rfl S.fits ?_)
 rw [if_neg (by simp)]
 show wpAny _ _ (setNext a (slotOf w t es.size) es.size ep >>= _) _ _ s
 refine nE1 (setNext_end S ?_)
 show wpAny _ _ (setField (.ref I) 2 .none >>= _) _ _ s
 refine nE1 (wpAny_setField hI rfl (by simp) ?_)
 exact stop_here hh fun e h' k T=>nE1 (wpAny_isInstance T isSubtype_stop (nF1 (hQ h' fun b o hb e=>k b o ((Heap.SameBut.update ..).extBut b o hb e))))
end
end
section
open PySem.SeqAt PySem.MeetsSeq PySem.Calls
noncomputable def subs (m:Nat):List Nat:=(List.range 5).filter fun i=>m.testBit i
noncomputable def tabOf (led:Bool) (l:List Nat):SetTable:={ mask:=if l.length < 5 then 7 else 31,place:=l.toArray,dummies:=#[],finger:=0,led:=led,moves:=if l.length < 5 then 0 else 1,plain:=true }
noncomputable def more (m x:Nat):Nat:=m ||| (1 <<< x)
inductive EsAre:List (Int×Value)->List Nat->Prop
 | nil:EsAre [] []
 | cons (i:Nat) (t:Tok) (es:List (Int×Value)) (l:List Nat):EsAre es l->EsAre (((i:Int),.int i t) :: es) (i :: l)
theorem EsAre.length {es:List (Int×Value)} {l:List Nat} (h:EsAre es l):es.length=l.length:=by
 induction h with
 | nil=>rfl
 | cons i t es l _ ih=>simp [ih]
theorem EsAre.insert {es:List (Int×Value)} {l:List Nat} (h:EsAre es l) (x:Nat) (t:Tok):∀ p,p<=l.length->EsAre (es.take p ++ ((x:Int),.int x t) :: es.drop p) (l.take p ++ x :: l.drop p):=by
 induction h with
 | nil=>intro p hp;simp;exact .cons x t _ _ .nil
 | cons i u es l h ih =>
  intro p hp
  cases p with
  | zero=>exact .cons x t _ _ (.cons i u _ _ h)
  | succ p=>exact .cons i u _ _ (ih p (by simpa using hp))
theorem EsAre.ints {es:List (Int×Value)} {l:List Nat} (h:EsAre es l):IntsAre (es.map (·.2)) (l.map fun (i:Nat)=>(i:Int)):=by
 induction h with
 | nil=>exact .nil
 | cons i t es l _ ih=>exact .cons (i:Int) t ih
theorem EsAre.hashes {es:List (Int×Value)} {l:List Nat} (h:EsAre es l):es.map (·.1)=l.map fun (i:Nat)=>(i:Int):=by
 induction h with
 | nil=>rfl
 | cons i t es l _ ih=>simp [ih]
theorem hash_small {x:Nat} (h:x < 5):hashInt (x:Int)=x:=(by decide +kernel:∀ x:Nat,x < 5->hashInt (x:Int)=(x:Int)) x h
theorem EsAre.elems {prog:Program} {w:World} {es:List (Int×Value)} {l:List Nat} (h:EsAre es l) (hl:∀ i∈l,i < 5):ElemsOf (intKind prog w) es:=by
 induction h with
 | nil=>intro e he;cases he
 | cons i t es l h ih =>
  intro e he
  rcases nZ.mp he with q | q
  ·subst q
   exact ⟨⟨i,intKind_is _ _ _ _,(hash_small (hl i (.head _))).symm⟩,rfl⟩
  ·exact ih (fun i hi=>hl i (.tail _ hi)) e q
theorem EsAre.find {prog:Program} {w:World} {es:List (Int×Value)} {l:List Nat} (h:EsAre es l) (x:Nat):(es.findIdx? fun e=>(intKind prog w).is x e.2).isSome=l.contains x:=by
 induction h with
 | nil=>rfl
 | cons i t es l h ih =>
  have e:(intKind prog w).is (x:Int) (Value.int i t)=(x==i):=by
   show Value.isInt (x:Int) (Value.int i t)=_
   unfold Value.isInt
   by_cases q:x=i
   ·subst q;simp
   ·have q':¬ ((i:Int)=x):=by exact om30 (fun e=>q e.symm)
    have q2:(x==i)=false:=by simpa using q
    rw [q2];simpa using q'
  rw [List.findIdx?_cons,List.contains_cons,e]
  cases q:(x==i) with
  | true=>simp
  | false=>simpa using ih
theorem subs_lt (m:Nat):∀ i∈subs m,i < 5:=fun i hi=>by
 unfold subs at hi
 rw [List.mem_filter,List.mem_range] at hi;exact hi.1
theorem subs_mem (m i:Nat):i∈subs m↔i < 5/\m.testBit i=true:=by
 unfold subs;rw [List.mem_filter,List.mem_range]
theorem more_bit (m x i:Nat):(more m x).testBit i=(m.testBit i||decide (i=x)):=by
 unfold more
 rw [Nat.testBit_or,Nat.one_shiftLeft,Nat.testBit_two_pow]
 congr 1
 exact decide_eq_decide.mpr ⟨fun h=>h.symm,fun h=>h.symm⟩
theorem more_lt {m x:Nat} (hm:m < 32) (hx:x < 5):more m x < 32:=by
 have:∀ m:Nat,m < 32->∀ x:Nat,x < 5->more m x < 32:=by decide +kernel
 exact this m hm x hx
theorem more_same {m x:Nat} (h:m.testBit x=true):more m x=m:=by
 apply Nat.eq_of_testBit_eq
 intro i
 rw [more_bit]
 by_cases q:i=x
 ·subst q;simp [h]
 ·simp [q]
noncomputable def midTab (led:Bool) (m x:Nat):SetTable:={ tabOf led (subs m) with place:=(subs (more m x)).toArray }
theorem lay1:∀ led:Bool,∀ m:Nat,m < 32->∀ x:Nat,x < 5->m.testBit x=false->(tabOf led (subs m)).freeSlot (x:Int)=some (x,false):=by decide +kernel
theorem lay2:∀ led:Bool,∀ m:Nat,m < 32->∀ x:Nat,x < 5->m.testBit x=false->((tabOf led (subs m)).put x).1=midTab led m x:=by decide +kernel
theorem lay3:∀ led:Bool,∀ m:Nat,m < 32->∀ x:Nat,x < 5->m.testBit x=false->((tabOf led (subs m)).put x).2<=(subs m).length:=by decide +kernel
theorem lay4:∀ led:Bool,∀ m:Nat,m < 32->∀ x:Nat,x < 5->m.testBit x=false->(subs m).take ((tabOf led (subs m)).put x).2 ++ x :: (subs m).drop ((tabOf led (subs m)).put x).2=subs (more m x):=by decide +kernel
theorem lay5:∀ led:Bool,∀ m:Nat,m < 32->∀ x:Nat,x < 5->m.testBit x=false->(midTab led m x).fits (subs (more m x)).length=true:=by decide +kernel
theorem lay6:∀ led:Bool,∀ m:Nat,m < 32->∀ x:Nat,x < 5->m.testBit x=false->(midTab led m x).tooFull=decide ((subs (more m x)).length=5):=by decide +kernel
theorem lay7:∀ led:Bool,∀ m:Nat,m < 32->∀ x:Nat,x < 5->m.testBit x=false->(subs (more m x)).length≠5->midTab led m x=tabOf led (subs (more m x)):=by decide +kernel
theorem lay8:∀ led:Bool,∀ m:Nat,m < 32->∀ x:Nat,x < 5->m.testBit x=false->(subs (more m x)).length=5->subs (more m x)=[0,1,2,3,4]:=by decide +kernel
theorem lay9a:∀ led:Bool,∀ m:Nat,m < 32->∀ x:Nat,x < 5->m.testBit x=false->(subs (more m x)).length=5->((midTab led m x).relaid #[0,1,2,3,4] (SetTable.grown 5)).map (·.1)=some (tabOf led [0,1,2,3,4]):=by decide +kernel
theorem lay9b:∀ led:Bool,∀ m:Nat,m < 32->∀ x:Nat,x < 5->m.testBit x=false->(subs (more m x)).length=5->(((midTab led m x).relaid #[0,1,2,3,4] (SetTable.grown 5)).map (fun p=>p.2.toList)).getD []=[0,1,2,3,4]:=by decide +kernel
theorem lay9 (led:Bool) (m:Nat) (hm:m < 32) (x:Nat) (hx:x < 5) (hb:m.testBit x=false) (hl:(subs (more m x)).length=5):(midTab led m x).relaid #[0,1,2,3,4] (SetTable.grown 5)=some (tabOf led [0,1,2,3,4],#[0,1,2,3,4]):=by
 have h1:=lay9a led m hm x hx hb hl
 have h2:=lay9b led m hm x hx hb hl
 cases h:(midTab led m x).relaid #[0,1,2,3,4] (SetTable.grown 5) with
 | none=>rw [h] at h1;exact nn h1
 | some p =>
  obtain ⟨a,b⟩:=p
  rw [h] at h1 h2
  simp only [Option.map_some,Option.some.injEq,Option.getD_some] at h1 h2
  rw [h1,show b=#[0,1,2,3,4] from Array.toList_inj.mp h2]
theorem tab_fits:∀ led:Bool,∀ m:Nat,m < 32->(tabOf led (subs m)).fits (subs m).length=true/\(tabOf led (subs m)).place.toList.Pairwise (· < ·)/\(subs m).Nodup:=by decide +kernel
noncomputable def setObj (es:Array (Int×Value)) (ep:Nat) (t:SetTable):Obj:={ cls:=.type "set",data:=.set es ep t }
noncomputable def Set5 (led:Bool) (h:Heap) (D:Addr) (m:Nat):Prop:=∃ es ep,h.get? D=some (setObj es ep (tabOf led (subs m)))/\EsAre es.toList (subs m)
theorem subs5 (m:Nat):(subs m).length<=5:=nA (List.length_filter_le _ _) (nG List.length_range)
theorem lay_new {es:Array (Int×Value)} {led:Bool} {m x:Nat} {tk:Tok} (hm:m < 32) (hx:x < 5) (hb:m.testBit x=false) (hes:EsAre es.toList (subs m)) :
  ∃ zs,layNew (tabOf led (subs m)) es (hashInt (x:Int)) (Value.int x tk)=(zs,midTab led m x,false,false)/\EsAre zs.toList (subs (more m x)):=by
 have ins:=hes.insert x tk _ (lay3 led m hm x hx hb)
 rw [lay4 led m hm x hx hb] at ins
 have hins:EsAre (SetTable.insertAt es ((tabOf led (subs m)).put x).2 ((x:Int),Value.int x tk)).toList (subs (more m x)):=by
  unfold SetTable.insertAt
  rw [Array.toList_append,Array.toList_push,Array.toList_extract,Array.toList_extract,List.extract_eq_take_drop,List.extract_eq_take_drop (start:=((tabOf led (subs m)).put x).2),List.drop_zero,Nat.sub_zero,List.take_of_length_le (l:=List.drop _ es.toList) (by rw [List.length_drop,Array.length_toList];exact nB _),List.append_assoc]
  exact ins
 refine ⟨_,?_,hins⟩
 unfold layNew
 rw [hash_small hx,lay1 led m hm x hx hb]
 dsimp only
 rw [<- Array.length_toList,hins.length,lay2 led m hm x hx hb,lay5 led m hm x hx hb]
 unfold SetTable.orStandIn
 rw [if_pos (lay5 led m hm x hx hb)]
 rfl
theorem len_s {β:Type} {l:List β} {n:Nat} (h:l.length=n+1):∃ a r,l=a :: r/\r.length=n:=by
 cases l with
 | nil=>exact absurd h nofun
 | cons a r=>exact ⟨a,r,rfl,Nat.succ.inj h⟩
theorem fm5 {β:Type} {l:List β} (h:l.length=5):(#[0,1,2,3,4]:Array Nat).filterMap ((⟨l⟩:Array β)[·]?)=⟨l⟩:=by
 refine eX2 (len_s h) fun a r q=>eX2 (len_s q.2) fun b r1 q1=>eX2 (len_s q1.2) fun c r2 q2=>eX2 (len_s q2.2) fun d r3 q3=>eX2 (len_s q3.2) fun e r4 q4=>?_
 rw [q.1,q1.1,q2.1,q3.1,q4.1,List.length_eq_zero_iff.mp q4.2]
 rfl
theorem relay5 {zs:Array (Int×Value)} {led:Bool} {m x:Nat} (hm:m < 32) (hx:x < 5) (hb:m.testBit x=false) (hins:EsAre zs.toList (subs (more m x))) (h5:(subs (more m x)).length=5) :
  relayAll (midTab led m x) zs (SetTable.grown zs.size)=(zs,tabOf led [0,1,2,3,4],false):=by
 have hz:zs.size=5:=(Array.length_toList (xs:=zs)).symm.trans (hins.length.trans h5)
 rw [lay8 led m hm x hx hb h5] at hins
 have hh:zs.map (·.1)=#[0,1,2,3,4]:=Array.toList_inj.mp (Array.toList_map.trans hins.hashes)
 have hfm:(#[0,1,2,3,4]:Array Nat).filterMap (zs[·]?)=zs:=fm5 (l:=zs.toList) hz
 unfold relayAll
 rw [hz,hh,lay9 led m hm x hx hb h5]
 dsimp only
 rw [hfm,hz,if_pos (show (coversAll #[0,1,2,3,4] 5&&(tabOf led [0,1,2,3,4]).fits 5)=true by cases led <;> decide +kernel)]
section
variable {prog:Program} {w:World} {A:Around} {E:Value->Shared->Prop} {s:Shared}
theorem add5 {D:Addr} {led:Bool} {m x:Nat} {tk:Tok} {Q:Bool->Shared->Prop} (S:Set5 led s.heap D m) (hm:m < 32) (hx:x < 5)
  (hQ:∀ h' b,Heap.SameBut D s.heap h'->Set5 led h' D (more m x)->Q b { s with heap:=h' }) :
  wpAny (model prog w) A (setAddHashed D (.int x tk) (hashInt (x:Int))) Q E s:=by
 obtain ⟨es,ep,ho,hes⟩:=S
 have hel:ElemsOf (intKind prog w) es.toList:=hes.elems (subs_lt m)
 have hlen:es.size=(subs m).length:=by rw [<- Array.length_toList,hes.length]
 have hl5:=subs5 m
 have hf:(tabOf led (subs m)).fits es.size=true:=by rw [hlen];exact (tab_fits led m hm).1
 have hsc:(Value.int (x:Int) tk).scannable=true:=rfl
 unfold setAddHashed setAddHashedIn
 refine nG1 (nE1 (wpAny_setState_of ho rfl hf ?_))
 dsimp only
 rw [byScan_of hsc (by unfold scanBound;exact om124 hlen hl5 _ rfl) hel]
 simp only [↓reduceIte]
 unfold setAddByScan
 refine nE1 ?_
 refine nE1 (wpAny_rule ?_)
 refine nE1 (wpAny_setScan_of (knd:=intKind prog w) (k:=(x:Int)) (intKind_is _ _ _ _) ho rfl hf hel ?_)
 have hfi:=hes.find (prog:=prog) (w:=w) x
 cases hr:List.findIdx? (fun e=>(intKind prog w).is (x:Int) e.2) es.toList with
 | some j =>
  dsimp only
  rw [hr] at hfi
  have hb:m.testBit x=true:=((subs_mem m x).mp (List.contains_iff_mem.mp hfi.symm)).2
  refine nF1 (nF1 ?_)
  have e:s={ s with heap:=s.heap }:=by cases s;rfl
  rw [e]
  exact hQ s.heap false (Heap.SameBut.refl D s.heap) (by rw [more_same hb];exact ⟨es,ep,ho,hes⟩)
 | none =>
  dsimp only
  rw [hr] at hfi
  have hb:m.testBit x=false:=by
   cases q:m.testBit x with
   | false=>rfl
   | true =>
    have:=List.contains_iff_mem.mpr ((subs_mem m x).mpr ⟨hx,q⟩)
    rw [<- hfi] at this;cases this
  have hgw:∀ (b:Bool) {s₁:Shared} {Q':Unit->Shared->Prop},Q' () s₁->wpAny (model prog w) A (match b with | true=>rule "set.scan.the-table-gave-way" | false=>pure ()) Q' E s₁ :=
   fun b s₁ Q' hq=>by cases b <;> first | exact nF1 hq | exact wpAny_rule hq
  refine eX1 (lay_new (led:=led) (tk:=tk) hm hx hb hes) fun zs q=>eD2 q fun hlay hins=>?_
  have hlen1:zs.size=(subs (more m x)).length:=(Array.length_toList (xs:=zs)).symm.trans hins.length
  have hl51:=subs5 (more m x)
  show wpAny (model prog w) A (match layNew (tabOf led (subs m)) es (hashInt (x:Int)) (Value.int x tk) with | (es,t,wasDummy,gave)=>_) _ E s
  rw [hlay]
  dsimp only
  refine nE1 (nF1 ?_)
  rw [if_pos (show (midTab led m x).plain=true from rfl)]
  refine nE1 ?_
  rw [hashByValue_scannable 8 hsc]
  refine nF1 ?_
  rw [if_pos (show plainKind (Value.int (x:Int) tk)=true from rfl)]
  refine nE1 (wpAny_storeSet_of ho rfl ?_ (by rw [hlen1,sizeLine_eq];exact om11 hl51 rfl))
  have ho1:(s.heap.update D (Obj.putSet zs (midTab led m x))).get? D=some (setObj zs (ep+1) (midTab led m x)) :=
   Heap.get?_update_self _ ho rfl
  have sb1:=Heap.SameBut.update s.heap D (Obj.putSet zs (midTab led m x))
  rw [lay6 led m hm x hx hb]
  by_cases h5:(subs (more m x)).length=5
  ·rw [decide_eq_true h5]
   simp only [Bool.not_false,Bool.and_self,if_true]
   have e8:=lay8 led m hm x hx hb h5
   rw [relay5 hm hx hb hins h5]
   dsimp only
   refine nE1 (nF1 ?_)
   refine nE1 (wpAny_storeSet_of ho1 rfl ?_ (by rw [hlen1,sizeLine_eq];exact om11 hl51 rfl))
   have ho2:(((s.heap.update D (Obj.putSet zs (midTab led m x))).update D (Obj.putSet zs (tabOf led [0,1,2,3,4])))).get? D=some (setObj zs (ep+1+1) (tabOf led [0,1,2,3,4])) :=
    Heap.get?_update_self _ ho1 rfl
   refine nF1 (nF1 (hQ _ true (sb1.trans (Heap.SameBut.update _ _ _)) ⟨_,ep+1+1,?_,hins⟩))
   rw [e8];exact ho2
  ·rw [decide_eq_false h5]
   simp only [Bool.not_false,Bool.and_false,Bool.false_eq_true,if_false]
   refine nF1 (nF1 (hQ _ true sb1 ⟨_,ep+1,?_,hins⟩))
   rw [<- lay7 led m hm x hx hb h5];exact ho1
theorem Set5.sameBut {led:Bool} {h h':Heap} {D I:Addr} {m:Nat} (S:Set5 led h D m) (hs:Heap.SameBut I h h') (hne:D≠I):Set5 led h' D m :=
 eX2 S fun es ep q=>⟨es,ep,(hs.2 D hne).trans q.1,q.2⟩
noncomputable def bits:Nat->List Int->Nat
 | m,[]=>m
 | m,i :: r=>bits (more m i.toNat) r
theorem set_loop {I D l:Addr} {items:Array Value} {led:Bool} {R:Result->Shared->Prop} (hh:A.handled=none) (hID:I≠D) (hlI:l≠I) (hlD:l≠D) :
  ∀ (is:List Int) (i m:Nat) (s:Shared),IntsAre (items.toList.drop i) is->(∀ x∈is,0<=x/\x < 5)->m < 32->s.heap.IsListIter I l i->s.heap.IsList l items->Set5 led s.heap D m ->
   (∀ h' tk,(∀ b o,b≠I->b≠D->s.heap.get? b=some o->h'.get? b=some o)->Set5 led h' D (bits m is)->R (.ok (.ret .none)) { s with heap:=h',toks:=tk }) ->
   codeAny (model prog w) A (.builtin "set.update.loop" ⟨[.ref D,.ref I],[]⟩) R s:=by
 intro is
 induction is with
 | nil =>
  intro i m s hv hb hm hit hl hS hR
  have hx:items[i]?=none:=by
   rw [<- Array.getElem?_toList]
   refine List.getElem?_eq_none ?_
   have:(items.toList.drop i).length=0:=by cases h:items.toList.drop i with | nil=>rfl | cons a b=>rw [h] at hv;cases hv
   rw [List.length_drop] at this;exact om125 this
  refine codeAny_builtin PyProof.Rows.F.entry_set_update_loop ?_
  rw [Around.under_plainId PyProof.Rows.F.plain_set_update_loop _]
  show wpAny _ A.in1 (pyNext (.ref I) >>= _) _ _ s
  refine nE1 (wpAny_pyNext_list_end (by exact hh) hit hl hx fun h' q1=>?_)
  show wpAny _ A.in1 (ret Value.none) _ _ _
  refine nF1 (hR h' s.toks (fun b o b1 uu e=>q1 b o b1 e) ?_)
  obtain ⟨es,ep,e,r⟩:=hS
  exact ⟨es,ep,q1 _ _ (Ne.symm hID) e,r⟩
 | cons x is ih =>
  intro i m s hv hb hm hit hl hS hR
  obtain ⟨t,hx,rs⟩:∃ t,items[i]?=some (.int x t)/\IntsAre (items.toList.drop (i+1)) is:=by
   generalize hd:items.toList.drop i=ds at hv
   cases hv with
   | cons _ t r2 =>
    refine ⟨t,?_,?_⟩
    ·rw [<- Array.getElem?_toList,<- Nat.add_zero i,<- List.getElem?_drop,hd];rfl
    ·rw [<- List.drop_drop,hd];exact r2
  obtain ⟨b1,b2⟩:=hb x (.head _)
  have ex:((x.toNat:Nat):Int)=x:=Int.toNat_of_nonneg b1
  have hx5:x.toNat < 5:=by exact om150 b2 rfl
  refine codeAny_builtin PyProof.Rows.F.entry_set_update_loop ?_
  rw [Around.under_plainId PyProof.Rows.F.plain_set_update_loop _]
  show wpAny _ A.in1 (pyNext (.ref I) >>= _) _ _ s
  refine nE1 (wpAny_pyNext_list_item hit hl hx fun h₁ q1 q2=>?_)
  show wpAny _ A.in1 (holding [Value.int x t] (setAdd D (.int x t)) >>= _) _ _ _
  refine nE1 (nG1 ?_)
  unfold setAdd
  refine nG1 ?_
  refine nE1 ((intKind prog w).pyHash (k:=x) (intKind_is _ _ _ _) ?_)
  have key:=add5 (prog:=prog) (w:=w) (A:=A.in1) (E:=fun e s'=>R (.error e) s') (s:={ s with heap:=h₁,toks:=s.toks+1 }) (x:=x.toNat) (tk:=t) (hS.sameBut q2 (Ne.symm hID)) hm hx5
   (Q:=fun a s'=>wpAny (model prog w) A.in1 (again (.builtin "set.update.loop" ⟨[.ref D,.ref I],[]⟩)) (fun fin s'=>match fin with | .done f=>R (.ok f) s' | .again c'=>c'.quiet=true/\codeAny (model prog w) A c' R s') (fun e s'=>R (.error e) s') s')
   fun h₂ b q3 S₂=>?_
  ·rw [ex] at key;exact key
  ·refine nF1 ⟨plainId_quiet PyProof.Rows.F.plain_set_update_loop _,ih (i+1) (more m x.toNat) _ rs (fun y hy=>hb y (.tail _ hy)) (more_lt hm hx5) ?_ ?_ S₂ fun h' tk k1 k2=>?_⟩
   ·obtain ⟨o,ho,hc,hd⟩:=q1
    exact ⟨o,by show h₂.get? I=some o;rw [q3.2 I hID];exact ho,hc,hd⟩
   ·obtain ⟨o,ho,hc,m,hd⟩:=hl
    exact ⟨o,by show h₂.get? l=some o;rw [q3.2 l hlD];show h₁.get? l=some o;rw [q2.2 l hlI];exact ho,hc,m,hd⟩
   ·exact hR h' tk (fun b o b1 b2 e=>k1 b o b1 b2 (by show h₂.get? b=some o;rw [q3.2 b b2];show h₁.get? b=some o;rw [q2.2 b b1];exact e)) k2
set_option maxRecDepth 100000 in
theorem code_set_new' (a:Value) {Q₁:Value->Shared->Prop}
  (h:Q₁ (.ref s.heap.objs.size) { s with heap:=s.heap.push (setObj #[] 0 (tabOf (!w.params.followText "set-order") [])) }) :
  codeAny (model prog w) A (.call (.builtin "set.__new__") ⟨[.type "set",a],[]⟩) (wants Q₁ E) s:=by
 refine codeAny_of_tree ?_
 show wpAny _ A.in1 (do checkBuiltinCall "set.__new__" ⟨[.type "set",a],[]⟩;again (.builtin "set.__new__" ⟨[.type "set",a],[]⟩)) _ _ s
 refine nE1 (wpAny_of_eq (F.newCall_set_1 a) (nF1 ⟨plainId_quiet F.plain_set_new _,codeAny_builtin F.entry_set_new ?_⟩))
 rw [Around.under_plainId F.plain_set_new _]
 unfold Builtin.«set.__new__» Builtin.Frozenset.newClass
 have hsub:isSubtype (.type "set") (.type "set")=pure true:=F.called_set.sub
 obtain ⟨hp,g,d,tk,os⟩:=s
 dsimp only
 wp_walk
 refine wpAny_askSetting (nF1 ?_)
 dsimp only
 simp only [newObj]
 refine nE1 (wpAny_alloc (nF1 ?_))
 exact nF1 h
set_option maxRecDepth 100000 in
set_option maxHeartbeats 3200000 in
theorem call_set5 {l:Addr} {items:Array Value} {is:List Int} {Q:Value->Shared->Prop} (hh:A.handled=none) (hl:s.heap.IsList l items) (hi:IntsAre items.toList is) (hb:∀ x∈is,0<=x/\x < 5)
  (h:∀ h' tk,(∀ b o,s.heap.get? b=some o->h'.get? b=some o)->Set5 (!w.params.followText "set-order") h' s.heap.objs.size (bits 0 is)->Q (.ref s.heap.objs.size) { s with heap:=h',toks:=tk }) :
  wpAny (model prog w) A (call (.type "set") [.ref l]) Q E s:=by
 obtain ⟨c,tl,hmro⟩:=F.called_set.mro
 have hmade:=F.called_set.made
 have hsub:=F.called_set.sub
 refine wpAny_call (codeAny_of_tree ?_)
 show wpAny _ _ (callAny (.type "set") _) _ _ _
 refine nF1 ⟨Code.quiet_builtin _ (by decide +kernel),codeAny_builtin F.entry_type_call ?_⟩
 rw [Around.under_plain (weight_type_call_type "set" [.ref l] []) rfl]
 have h1:=F.called_set.notType
 have h2:=F.called_set.canCreate
 have hct:=F.typeCall_set_1 (.ref l)
 repeat (any_goals (first | assumption | wp_step))
 refine codeAny_mono (code_set_new' (.ref l) (E:=E) (Q₁:=fun obj s₁=>obj=.ref s.heap.objs.size/\s₁={ s with heap:=s.heap.push (setObj #[] 0 (tabOf (!w.params.followText "set-order") [])) }) ⟨rfl,rfl⟩) fun r s₁ hr=>?_
 cases r with
 | error e=>exact hr
 | ok fl =>
  cases fl with
  | ret obj =>
   obtain ⟨rfl,rfl⟩:=hr
   have hS:(s.heap.push (setObj #[] 0 (tabOf (!w.params.followText "set-order") []))).get? s.heap.objs.size=some (setObj #[] 0 (tabOf (!w.params.followText "set-order") [])):=Heap.get?_push_size _ rfl
   have hT:Shared.TypeIs { s with heap:=s.heap.push (setObj #[] 0 (tabOf (!w.params.followText "set-order") [])) } (.ref s.heap.objs.size) "set":=⟨_,hS,rfl⟩
   have hli:=F.called_set.init.lookup
   have hbi:=F.called_set.init.bind (.ref s.heap.objs.size)
   repeat (any_goals (first | assumption | wp_step))
   refine codeAny_mono (codeAny_call_builtin (R:=wants (fun r s₂=>r=.none/\∃ h' tk,s₂={ s with heap:=h',toks:=tk } /\
     Set5 (!w.params.followText "set-order") h' s.heap.objs.size (bits 0 is)/\(∀ b o,s.heap.get? b=some o->h'.get? b=some o)) E) F.called_set.init.plain F.entry_set_init (PySem.check_set_init_1 hT ?_)) fun r₂ s₂ hr₂=>?_
   ·obtain ⟨ol,hol,hcl,nl,hdl⟩:=hl
    obtain ⟨ocls,odict,odata,oslots⟩:=ol
    simp only at hcl hdl
    subst hcl;subst hdl
    have hol':(s.heap.push (setObj #[] 0 (tabOf (!w.params.followText "set-order") []))).get? l=some { cls:=.type "list",dict:=odict,data:=.seq items nl,slots:=oslots }:=Heap.get?_push_of_some _ hol
    have hsls:=F.sub_list_set
    have hslf:=F.sub_list_frozenset
    have hne:(Value.type "list"==Value.type "dict")=false:=by decide
    have hl1:(s.heap.push (setObj #[] 0 (tabOf (!w.params.followText "set-order") []))).IsList l items:=⟨_,hol',rfl,nl,rfl⟩
    unfold Builtin.«set.__init__» noKeywords Builtin.Frozenset.updateFrom
    generalize hPI:pyIter=PI
    wp_walk
    subst hPI
    refine wpAny_pyIter_list hl1 ?_
    refine nE1 (wpAny_runValue ?_)
    have hlS:l < s.heap.objs.size:=Heap.lt_size hol
    refine set_loop (l:=l) (items:=items) (led:=!w.params.followText "set-order") (by exact hh) (Nat.ne_of_gt (by rw [Heap.size_push];exact nQ _)) (nH (by rw [Heap.size_push];exact nX hlS)) (nH hlS) is 0 0 _ (by simpa using hi) hb (by exact nC rfl)
     ⟨_,Heap.get?_push_size _ rfl,rfl,rfl⟩ (hl1.push _) ⟨#[],0,Heap.get?_push_of_some _ hS,.nil⟩ fun h' tk k1 k2=>?_
    refine nF1 ?_
    show wpAny _ _ (ret Value.none) _ _ _
    refine nF1 ⟨rfl,h',tk,rfl,k2,fun b o e=>?_⟩
    have hb:=Heap.lt_size e
    refine k1 b o (nH (by rw [Heap.size_push];exact nX hb)) (nH hb) (Heap.get?_push_of_some _ (Heap.get?_push_of_some _ e))
   ·cases r₂ with
    | error e=>exact hr₂
    | ok fl₂ =>
     cases fl₂ with
     | ret r =>
      obtain ⟨rfl,h',tk,rfl,hS',hk'⟩:=hr₂
      repeat (any_goals (first | assumption | wp_step))
      exact h _ _ hk' hS'
     | _=>exact hr₂.elim
  | _=>exact hr.elim
end
end
section
open PySem.SeqAt PySem.MeetsSeq PySem.Calls
theorem bits_lt:∀ (is:List Int) (m:Nat),m < 32->(∀ x∈is,0<=x/\x < 5)->bits m is < 32
 | [],m,h,_=>h
 | x :: r,m,h,hb=>bits_lt r _ (more_lt h (by have:=hb x (.head _);exact om91 this)) fun y hy=>hb y (.tail _ hy)
theorem bits_bit:∀ (is:List Int) (m i:Nat),(bits m is).testBit i=true↔m.testBit i=true∨∃ x∈is,x.toNat=i
 | [],m,i=>by simp [bits]
 | x :: r,m,i=>by
  show (bits (more m x.toNat) r).testBit i=true↔_
  rw [bits_bit r,more_bit,Bool.or_eq_true,decide_eq_true_eq]
  simp only [nZ,exists_eq_or_imp]
  constructor
  ·rintro ((h | h) | h)
   ·exact .inl h
   ·exact .inr (.inl h.symm)
   ·exact .inr (.inr h)
  ·rintro (h | h | h)
   ·exact .inl (.inl h)
   ·exact .inl (.inr h.symm)
   ·exact .inr h
theorem bits_mem {is:List Int} (hb:∀ x∈is,0<=x/\x < 5) (i:Int):i∈(subs (bits 0 is)).map (fun (k:Nat)=>(k:Int))↔i∈is:=by
 rw [List.mem_map]
 constructor
 ·rintro ⟨k,hk,rfl⟩
  refine eD2 ((subs_mem _ _).mp hk) fun uu h=>?_
  rcases (bits_bit is 0 k).mp h with h | ⟨x,hx,h⟩
  ·simp at h
  ·have:=hb x hx
   have:(k:Int)=x:=by exact h▸Int.toNat_of_nonneg this.1
   rw [this];exact hx
 ·intro h
  have hi:=hb i h
  exact ⟨i.toNat,(subs_mem _ _).mpr ⟨by exact om91 hi,(bits_bit is 0 _).mpr (.inr ⟨i,h,rfl⟩)⟩,by exact om43 hi.1⟩
theorem kdl_hint_set {prog:Program} {w:World} {A:Around} {E:Value->Shared->Prop} {s:Shared} {r:Addr} {Q:Bool->Shared->Prop} (hT:s.TypeIs (.ref r) "set") (h:Q false s):wpAny (model prog w) A (Builtin.List.listLengthHint (.ref r)) Q E s:=by
 unfold Builtin.List.listLengthHint
 refine nE1 (wpAny_specialOf hT PySem.F.slot_set_len.lookup ?_)
 generalize hid:("set.__len__":String)=id0
 wp_delta
 rw [show splitId id0=some ("set","__len__") from by subst hid;decide +kernel]
 subst hid
 refine nE1 (wpAny_isInstance (T:="set") (b:=true) hT (by rw [isSubtype_type];kernel_rfl) ?_)
 refine nH1 (fun hab=>absurd hab (by decide)) (fun uu=>?_)
 refine nH1 (fun uu=>?_) (fun hab=>absurd (by decide +kernel) hab)
 refine nE1 (wpAny_typeOf hT ?_)
 exact nF1 h
theorem iter_setiter {prog:Program} {w:World} {A:Around} {E:Value->Shared->Prop} {s:Shared} {I:Addr} {o:Obj} {Q:Value->Shared->Prop} (hI:s.heap.get? I=some o) (hc:o.cls=.type "set_iterator") (h:Q (.ref I) s):wpAny (model prog w) A (pyIter (.ref I)) Q E s:=by
 have hT:s.TypeIs (.ref I) "set_iterator":=⟨_,hI,hc⟩
 refine wpAny_pyIter_slot hT slot_setiter_iter (wpAny_call_entry slot_setiter_iter hT (b:=Builtin.«dict_keyiterator.__iter__») (entryFor_alias (id':="dict_keyiterator.__iter__") (by kernel_rfl) rfl (by decide +kernel) (by kernel_rfl)) ?_ (by unfold argsOk;kernel_rfl))
 show wpAny _ _ (ret (.ref I)) _ _ s
 exact nF1 ⟨_,rfl,"set_iterator",_,hT,slot_setiter_next.lookup,h⟩
section
variable {prog:Program} {w:World} {A:Around} {E:Value->Shared->Prop} {s:Shared} {a I:Addr} {es:Array (Int×Value)} {ep:Nat} {t:SetTable}
theorem SetAt.keep {h h':Heap} (S:SetAt w h a es ep t) (hk:∀ o,h.get? a=some o->h'.get? a=some o):SetAt w h' a es ep t:=⟨hk _ S.at_,S.fits,S.led,S.plain,S.rise⟩
theorem iter_set {Q:Value->Shared->Prop} (S:SetAt w s.heap a es ep t) (hQ:Q (.ref s.heap.objs.size) { s with heap:=s.heap.push (setIt w a es.size ep t 0) }):wpAny (model prog w) A (pyIter (.ref a)) Q E s:=by
 have hT:s.TypeIs (.ref a) "set":=⟨_,S.at_,rfl⟩
 refine wpAny_pyIter_slot hT PySem.F.slot_set_iter (wpAny_call_entry PySem.F.slot_set_iter hT entry_set_iter ?_ (PySem.F.args_set_iter_1 _))
 unfold Builtin.«frozenset.__iter__»
 refine nE1 ?_
 unfold Builtin.Frozenset.slot0
 refine nE1 (nF1 ?_)
 show wpAny _ _ (pure a) _ _ s
 refine nF1 ?_
 refine nE1 ?_
 unfold Builtin.Frozenset.sizeOf
 refine nE1 (wpAny_setEntries_of S.at_ rfl S.fits (nF1 ?_))
 refine nE1 ?_
 unfold setDrawn
 refine nE1 (wpAny_setState_of S.at_ rfl S.fits ?_)
 unfold setsByText
 refine nE1 (nE1 (wpAny_askSetting (nF1 ?_)))
 refine nF1 ?_
 have slot0:slotOf w t 0=0:=by unfold slotOf;split <;> rfl
 have nd:∀ b:Bool,¬ ((!b&&(!t.plain&&decide (es.size > 1)))=true):=fun b h=>by rw [S.plain] at h;simp at h
 dsimp only
 refine nH1 (fun hab=>absurd hab (nd _)) fun uu=>?_
 refine nE1 (nF1 ?_)
 refine nE1 (wpAny_setEpoch_of S.at_ rfl S.fits ?_)
 unfold newFields
 refine nE1 (wpAny_newObj_type (nF1 ⟨_,rfl,"set_iterator",_,⟨_,Heap.get?_push_size _ rfl,rfl⟩,slot_setiter_next.lookup,?_⟩))
 have e:setIt w a es.size ep t 0={ cls:=.type "set_iterator",data:=.fields #[.int 0 0,.int 0 0,.ref a,.int es.size 0,.int ep 0] }:=by
  unfold setIt;rw [slot0];rfl
 rw [e] at hQ
 exact hQ
theorem walks_set (hh:A.handled=none) (hne:a≠I):Walks prog w A I [I,a] [I] es.size (fun i v=>(ordOf w a ep es)[i]?=some v) (fun i h=>h.get? I=some (setIt w a es.size ep t i)/\SetAt w h a es ep t) where
 sub:=fun b hb=>by simp at hb;simp [hb]
 frame:=fun uu uu uu st hk=>⟨hk I (by simp) _ st.1,st.2.keep fun o e=>hk a (by simp) o e⟩
 item:=fun i s Q E hi st hQ=>by
  have hl:(ordOf w a ep es).length=es.size:=by rw [(ordOf_perm w a ep es).length_eq,nY,Array.length_toList]
  obtain ⟨v,hv⟩:∃ v,(ordOf w a ep es)[i]?=some v:=⟨_,nA1 (by rw [hl];exact hi)⟩
  refine item_set st.2 st.1 hv fun h' q1 q2=>?_
  exact hQ v h' s.toks hv ⟨q1,st.2.keep fun o e=>by rw [q2.2 a hne];exact e⟩ fun b o hb e=>q2.extBut b o (fun h=>hb (by simp [h])) e
 done:=fun s Q E st hQ=>end_set hh st.2 st.1 fun h' q1=>hQ h' s.toks fun b o hb e=>q1 b o (fun h=>hb (by simp [h])) e
 self:=fun uu uu uu uu st hQ=>iter_setiter st.1 rfl hQ
theorem kdl_set:KdlSrc prog w "set" a a es.size (fun i v=>(ordOf w a ep es)[i]?=some v) (fun h=>SetAt w h a es ep t) where
 type:=fun uu S=>⟨_,S.at_,rfl⟩
 there:=fun uu S=>⟨Heap.lt_size S.at_,Heap.lt_size S.at_⟩
 keep:=fun uu uu S hk=>S.keep fun o e=>hk a (.inl rfl) o e
 notList:=by decide
 notTuple:=by decide
 hint:=fun uu uu uu uu S hq=>kdl_hint_set ⟨_,S.at_,rfl⟩ hq
 iter:=fun uu s hh S=>⟨_,_,(fun uu uu hq=>iter_set S hq),walks_set hh (nH (Heap.lt_size S.at_)),⟨Heap.get?_push_size _ rfl,S.keep fun o e=>Heap.get?_push_of_some _ e⟩⟩
end
section
variable {B:Base} {A:Around} {z:Z} {Q X:PostV} {n:Nat} {fs:List Env} {args:List AV} {vs:List Value}
theorem intsAre_all:∀ {vs:List Value} {is:List Int},IntsAre vs is->(∀ v∈vs,isZ v)/\vs.map keyZ=is
 | _,_,.nil=>⟨nofun,rfl⟩
 | _,_,.cons x t h=>⟨fun v hv=>(nZ.mp hv).elim (fun e=>⟨x,t,e⟩) ((intsAre_all h).1 v),congrArg (x :: ·) (intsAre_all h).2⟩
theorem ints_are:∀ {vs:List Value},(∀ v∈vs,isZ v)->IntsAre vs (vs.map keyZ)
 | [],_=>.nil
 | v :: vs,h=>(h v (.head _)).elim fun i q=>q.elim fun t e=>e▸.cons i t (ints_are fun u hu=>h u (.tail _ hu))
theorem sorted_set (hled:B.P.led=!B.w.params.followText "set-order") {js:List Int} {v:Value} (h:Q (.lst ((sortZ js).map .int)) z.k z.σ) (C:CxZ B A fs n z) (R:Rep B z) (hv:Vr B z (.set js) v):Runs B A z (call (.builtin "sorted") [v]) (VEnd B Q) X:=by
 obtain ⟨a,o,rfl,e,es,ep,t,ns,rfl,q1,q2,q3,q4,q5,q6,q7,q8⟩:=hv
 have S:SetAt B.w z.s.heap a es ep t:=⟨R.stays _ _ e,q1,q2.trans hled,q3,q4⟩
 have hp:=ordOf_perm B.w a ep es
 refine eD2 (intsAre_all q6) fun r1 r2=>?_
 have hl:(ordOf B.w a ep es).length=es.size:=by rw [hp.length_eq,nY,Array.length_toList]
 have hall:∀ v∈ordOf B.w a ep es,isZ v:=fun v hv=>r1 v (hp.mem_iff.mp hv)
 have hpm:((ordOf B.w a ep es).map keyZ).Perm ns:=r2▸hp.map keyZ
 refine fun Qc E hQ uu=>sorted_gen (Pv:=fun vs=>vs=ordOf B.w a ep es) izKind_oneLt (fun R' E' hR=>?_) (fun vs hv=>?_) fun vs st' h' tk D c hv hk hD ho hp' hs=>?_
 ·refine kdu_collect (A:=A.in1) (kdl_set (t:=t)) C.handled S (line_ok (Nat.lt_trans q5 (by decide))) fun h' tk acc hk hacc=>hR _ _ tk ?_ hk
  refine List.ext_getElem? fun j=>?_
  cases hj:acc.toList[j]? with
  | some v=>exact (hacc.2 j v (Array.getElem?_toList.symm.trans hj)).symm
  | none=>exact (List.getElem?_eq_none (hl.symm▸hacc.1▸Array.length_toList (xs:=acc)▸List.getElem?_eq_none_iff.mp hj)).symm
 ·subst hv
  exact ⟨keysOf_all isZ_key hall,fun v₁ v₂ rest e=>keyKind_ints (ints_are (e▸hall)),hl▸q5⟩
 ·subst hv
  refine eD3 (sorted_out isZ_le isZ_key hall hp' hs) fun s1 s2 s3=>?_
  have hpn:=s2.trans hpm
  exact listed R (sorted_eqZ (hpn.nodup_iff.mpr q7) (fun i=>hpn.mem_iff.trans (q8 i)) s3▸vrs_ints s1) h hQ hk hD ho tk
theorem set_ok (hled:B.P.led=!B.w.params.followText "set-order") (h:oneP args fun a=>asLst a fun vs=>okO (intsAll vs) fun is=>cond (all5 is) (few vs (Q (.set is) z.k z.σ)) False) (C:CxZ B A fs n z) (R:Rep B z) (hv:Vrs B z args vs):Runs B A z (call (.type "set") vs) (VEnd B Q) X :=
 oneV (C:=fun vs=>Runs B A z (call (.type "set") vs) (VEnd B Q) X) h hv fun a v h hv=>lstA (C:=fun a=>Vr B z a v->Runs B A z (call (.type "set") [v]) (VEnd B Q) X) h (fun as h hv=>okE h fun is his h=>only h fun h5 h=>fewE h fun hl hq Qc E hQ uu=>by
  refine eX3 hv fun l its k qA4=>eD3 qA4 fun eA4x3 e r=>?_;obtain rfl:=eA4x3
  have hb:∀ x∈is,0<=x/\x < 5:=fun x hx=>band (nC1.mp h5 x hx) fun q1 q2=>⟨of_decide_eq_true q1,of_decide_eq_true q2⟩
  refine call_set5 C.handled ⟨_,R.stays _ _ e,rfl,k,rfl⟩ (intsAll_are his r) hb fun h' tk hk hS=>?_
  refine eX2 hS fun es ep qA5=>eD2 qA5 fun ho hes=>?_
  have hm:=bits_lt is 0 (by decide) hb
  refine eD3 (tab_fits (!B.w.params.followText "set-order") _ hm) fun f1 f2 f3=>?_
  have hlen:es.size=(subs (bits 0 is)).length:=by rw [<- Array.length_toList,hes.length]
  have hl5:(subs (bits 0 is)).length<=5:=by unfold subs;exact List.length_filter_le _ _
  refine eX1 (new_frozen R hk (nB _) ho (nf_of rfl rfl) tk) fun g' qA7=>eD2 qA7 fun g e4=>?_
  exact hQ ((z.put h' tk).gr g') _ g ⟨.set is,⟨_,_,rfl,e4,es,ep,_,(subs (bits 0 is)).map (fun (k:Nat)=>(k:Int)),rfl,hlen▸f1,hled.symm,rfl,f2,hlen▸nF hl5 (by decide),hes.ints,List.Pairwise.map _ (fun a b h e=>h (Int.ofNat.inj e)) f3,bits_mem hb⟩,hq⟩) hv
theorem str_at {l:List String} {i j:Nat} {s t:String} (h:l[i]?=some s) (e:Nat.beq i j=true) (ht:l[j]?=some t):s=t:=oJ (h.symm.trans (nE e▸ht))
theorem blt_ok (F0:Facts0 B) (cls:ClsFacts B) (I:IsiFacts B) (hled:B.P.led=!B.w.params.followText "set-order") (n:Nat) (cw):BltOk ⟨B,n,cw⟩:=fun A fs z i s args vs Q X h hs C R hv =>
 have C:CxZ B A fs n z:=C
 either h (fun e h=>str_at hs e rfl▸len_ok (fs:=fs) (n:=n) F0 h R hv) fun uu h=>either h (fun e h=>str_at hs e rfl▸oneV (C:=fun vs=>Runs B A z (call (.builtin "sorted") vs) (VEnd B Q) X) h hv fun a v h hv=>either h (fun uu h=>setA (C:=fun a=>Vr B z a v->Runs B A z (call (.builtin "sorted") [v]) (VEnd B Q) X) h (fun js h hv=>sorted_set hled h C R hv) hv) fun uu h=>only h fun hk h=>sorted_ok F0 hk h C R hv) fun uu h =>
 either h (fun e h=>str_at hs e rfl▸max_ok h C R hv) fun uu h=>either h (fun e h=>str_at hs e rfl▸min_ok h C R hv) fun uu h=>either h (fun e h=>str_at hs e rfl▸twoE (C:=fun args=>Vrs B z args vs->Runs B A z (call (.builtin "isinstance") vs) (VEnd B Q) X) h (fun a t h hv=>by
  cases vs with
  | nil=>exact hv.elim
  | cons v vs =>
   cases vs with
   | nil=>exact hv.2.elim
   | cons u vs =>
    cases vs with
    | cons=>exact hv.2.2.elim
    | nil=>exact typA (C:=fun t=>Vr B z t u->Runs B A z (call (.builtin "isinstance") [v,u]) (VEnd B Q) X) h (fun j h hu=>only h fun hj h=>by
      refine eX1 hu fun s qA8=>eD2 qA8 fun hs eA8x2=>?_;obtain rfl:=eA8x2
      obtain rfl:=str_at hs hj rfl
      exact either h (fun uu h=>instA (C:=fun a=>Vr B z a v->Runs B A z (call (.builtin "isinstance") [v,.type "bytes"]) (VEnd B Q) X) h (fun c fs' h hv=>only h fun hc h=>by
       obtain rfl:=nE hc
       exact isinst_inst cls I h R hv) hv.1) fun uu h=>only h fun hk h=>isinst_ok cls I hk h R hv.1) hv.2.1) hv) fun uu h =>
 only h fun e h=>str_at hs e rfl▸sum_ok h C R hv
theorem typ_ok (hled:B.P.led=!B.w.params.followText "set-order") (n:Nat) (cw):TypOk ⟨B,n,cw⟩:=fun A fs z i s args vs Q X h hs C R hv =>
 have C:CxZ B A fs n z:=C
 either h (fun e h=>str_at hs e rfl▸list_ok h R hv) fun uu h=>either h (fun e h=>str_at hs e rfl▸range_ok h R hv) fun uu h=>either h (fun e h=>str_at hs e rfl▸dict_ok h C R hv) fun uu h=>either h (fun e h=>str_at hs e rfl▸set_ok hled h C R hv) fun uu h =>
  either h (fun e h=>str_at hs e rfl▸int_ok h R hv) fun uu h=>only h fun e h=>str_at hs e rfl▸tuple_ok h R hv
end
end
namespace B
theorem okI {α:Type} {o:Option α} {c:α->Prop} {x:α} (e:o=some x) (h:c x):okO o c:=e▸h
theorem cT {b:Bool} {P Q:Prop} (e:b=true) (h:P):cond b P Q:=e▸h
theorem cF {b:Bool} {P Q:Prop} (e:b=false) (h:Q):cond b P Q:=e▸h
theorem cD {p:Prop} [Decidable p] {P Q:Prop} (f:p->P) (g:¬ p->Q):cond (decide p) P Q:=(Decidable.em p).elim (fun h=>cT (decide_eq_true h) (f h)) fun h=>cF (decide_eq_false h) (g h)
theorem dT {p:Prop} [Decidable p] {P Q:Prop} (h:p) (q:P):cond (decide p) P Q:=cT (decide_eq_true h) q
theorem dF {p:Prop} [Decidable p] {P Q:Prop} (h:¬ p) (q:Q):cond (decide p) P Q:=cF (decide_eq_false h) q
theorem isS {α:Type} {o:Option α} {x:α} {P Q:Prop} (e:o=some x) (p:P):cond o.isSome P Q:=cT (e▸rfl) p
theorem isN {α:Type} {o:Option α} {P Q:Prop} (e:o=none) (q:Q):cond o.isSome P Q:=cF (e▸rfl) q
theorem run_fn {n f:Nat} {fn:Fn} {vars:Vars} {args:List AV} {k:Nat} {σ:Store} {Q X:PostV} (h1:Φ f=some fn) (h2:bindV fn args=some vars) (h3:fn.keep=false)
  (h:exW (L n) fn.body vars k σ (fun uu k' σ'=>Q .none k' (restr k σ')) (fun v k' σ'=>Q v k' (restr k σ')) (fun v k' σ'=>X v k' (restr k σ'))):L (n+1) (.fn f) args k σ Q X:=by
 unfold L
 rw [callW_s]
 exact ⟨okI h1 (okI h2 (cF h3 h))⟩
theorem run_keep {n f:Nat} {fn:Fn} {vars:Vars} {args:List AV} {k:Nat} {σ:Store} {Q X:PostV} (h1:Φ f=some fn) (h2:bindV fn args=some vars) (h3:fn.keep=true)
  (h:exW (L n) fn.body vars k σ (fun uu k' σ'=>Q .none k' σ') Q X):L (n+1) (.fn f) args k σ Q X:=by
 unfold L
 rw [callW_s]
 exact ⟨okI h1 (okI h2 (cT h3 h))⟩
theorem upd_same (σ:Store) (i:Nat) (c:Cell):upd σ i c i=some c:=if_pos rfl
theorem upd_other (σ:Store) {i j:Nat} (c:Cell) (h:j≠i):upd σ i c j=σ j:=if_neg h
theorem restr_low (σ:Store) {k j:Nat} (h:j < k):restr k σ j=σ j:=if_pos h
noncomputable def sName:Str:=.mk #[110,97,109,101]
noncomputable def sInt:Str:=.mk #[105,110,116,101,103,101,114]
noncomputable def sDict:Str:=.mk #[100,105,99,116]
noncomputable def sWord:Str:=.mk #[119,111,114,100]
noncomputable def sNumber:Str:=.mk #[110,117,109,98,101,114]
noncomputable def sStack:Str:=.mk #[115,116,97,99,107]
noncomputable def sAccess:Str:=.mk #[97,99,99,101,115,115]
noncomputable def sPairs:Str:=.mk #[112,97,105,114,115]
noncomputable def sMost:Str:=.mk #[109,111,115,116]
noncomputable def thing (kind:Str) (v:AV):AV:=.inst 1 [(1,.str kind),(2,v),(3,.bool false),(4,.int 3)]
noncomputable def kthing:Nat->AV
 | 0=>thing sName (.bytes [97])
 | 1=>thing sName (.bytes [98])
 | 2=>thing sName (.bytes [99,99])
 | _=>thing sInt (.int 7)
noncomputable def kword:Nat->AV
 | 0=>.tup [.str sWord,.bytes [97]]
 | 1=>.tup [.str sWord,.bytes [98]]
 | 2=>.tup [.str sWord,.bytes [99,99]]
 | _=>.tup [.str sNumber,.int 7000000]
noncomputable def vthing (v:Int):AV:=thing sInt (.int v)
noncomputable def dthing (i:Nat):AV:=thing sDict (.cell (4+3*i))
noncomputable def entry (p:Nat×Int):AV×AV:=(kword p.1,.tup [kthing p.1,vthing p.2])
structure PS where
 stk:List Nat
 acc:Nat->Int
 prs:Nat->List (Nat×Int)
 mst:Nat->Int
 th:Nat
structure LS where
 stk:List Nat
 acc:Nat->Int
 prs:Nat->List (Nat×Int)
 nums:List Int
 pos:Int
 stir:Int
noncomputable def set1 {α:Type} (f:Nat->α) (i:Nat) (a:α):Nat->α:=fun j=>if j=i then a else f j
theorem set1_same {α:Type} (f:Nat->α) (i:Nat) (a:α):set1 f i a i=a:=if_pos rfl
theorem set1_other {α:Type} (f:Nat->α) {i j:Nat} (a:α) (h:j≠i):set1 f i a j=f j:=if_neg h
noncomputable def memF (p:PS):List (Nat×AV):=[(16,.cell 1),(7,.bool false),(49,.lst []),(57,.lst []),(58,.cell 3),(59,.lst []),(60,.int (16*(p.mst 0+p.mst 1+p.mst 2+p.mst 3+p.mst 4))),(61,.int 0),(62,.int 5),(63,.int 0)]
noncomputable def limF:List (Nat×AV):=[(27,.int 500),(24,.int 20),(32,.int 250),(49,.int 15),(50,.int 31),(51,.int 65535),(52,.int 65535),(9,.int 65535),(53,.int 127),(54,.int 1500),(55,.int 11),(30,.int 15),(34,.int 600),(56,.int 16777216)]
noncomputable def bodyF (p:PS) (i:Nat):List (Nat×AV):=[(5,.int (i+1)),(6,.int (p.mst i)),(7,.bool false),(8,.int 0),(4,.int (p.acc i)),(9,.cell (5+3*i))]
noncomputable def m5 (f:Nat->AV):List (AV×AV):=[(.int 1,f 0),(.int 2,f 1),(.int 3,f 2),(.int 4,f 3),(.int 5,f 4)]
noncomputable def madeV (m:Int):AV:=.tup [.int (16*m),.bool false,.int 0]
noncomputable def stackF (most:Int) (p:PS):List (Nat×AV):=[(6,.int most),(18,.cell p.th)]
noncomputable def pairV (q:Nat×Int):AV:=.tup [.int q.1,.int q.2]
noncomputable def stateE (most:Int) (l:LS):List (AV×AV):=[(.str sStack,.lst (l.stk.map fun (i:Nat)=>.int (i:Int))),(.str sAccess,.cell 19),(.str sPairs,.cell 20),(.str sMost,.int most)]
structure Rel (most:Int) (σ:Store) (k:Nat) (p:PS) (l:LS):Prop where
 low:24<=k
 well:σ 0=some (.list [.lst (l.nums.map .int),.int l.pos,.int l.stir])
 lim:σ 1=some (.inst 5 limF)
 mem:σ 2=some (.inst 6 (memF p))
 made:∃ ep,σ 3=some (.dict 0 (m5 fun j=>madeV (p.mst j)) ep)
 body:∀ i,i < 5->σ (4+3*i)=some (.inst 2 (bodyF p i))
 ent:∀ i,i < 5->∃ ep,σ (5+3*i)=some (.dict 3 ((p.prs i).map entry) ep)
 accs:σ 19=some (.list ((List.range 5).map fun i=>.int (l.acc i)))
 prss:σ 20=some (.list ((List.range 5).map fun i=>.lst ((l.prs i).map pairV)))
 state:∃ ep,σ 21=some (.dict 2 (stateE most l) ep)
 stack:σ 22=some (.inst 3 (stackF most p))
 thin:σ p.th=some (.list (p.stk.map dthing))
 th1:23<=p.th
 th2:p.th < k
theorem m5_get (f:Nat->AV):∀ {i:Nat},i < 5->dget (m5 f) (.int ((i:Int)+1))=some (f i)
 | 0,_=>rfl
 | 1,_=>rfl
 | 2,_=>rfl
 | 3,_=>rfl
 | 4,_=>rfl
theorem m5_put (f:Nat->AV) (v:AV):∀ {i:Nat},i < 5->dput (m5 f) (.int ((i:Int)+1)) v=m5 (set1 f i v)
 | 0,_=>rfl
 | 1,_=>rfl
 | 2,_=>rfl
 | 3,_=>rfl
 | 4,_=>rfl
theorem set1_all {α:Type} {P:α->Prop} {f:Nat->α} {i:Nat} {a:α} (h:∀ j,P (f j)) (ha:P a) (j:Nat):P (set1 f i a j):=by unfold set1;split <;> first | exact ha | exact h j
theorem set1_map {α β:Type} (F:α->β) (f:Nat->α) (i:Nat) (a:α):(fun j=>F (set1 f i a j))=set1 (fun j=>F (f j)) i (F a):=funext fun j=>by unfold set1;split <;> rfl
noncomputable def Low (k:Nat) (σ σ':Store):Prop:=∀ j,j < k->σ' j=σ j
theorem Low.refl (k:Nat) (σ:Store):Low k σ σ:=fun uu uu=>rfl
theorem Low.trans {k k':Nat} {σ σ' σ'':Store} (a:Low k σ σ') (b:Low k' σ' σ'') (h:k<=k'):Low k σ σ'':=fun j hj=>(b j (nD hj h)).trans (a j hj)
theorem Low.restr {k:Nat} {σ σ':Store} (a:Low k σ σ'):Low k σ (restr k σ'):=fun j hj=>(restr_low _ hj).trans (a j hj)
theorem Low.upd {k i:Nat} {σ σ':Store} (a:Low k σ σ') (c:Cell) (h:k<=i):Low k σ (upd σ' i c):=fun j hj=>(upd_other _ _ (nH (nD hj h))).trans (a j hj)
section
variable {most:Int} {n i:Nat} {σ σ':Store} {k k':Nat} {p:PS} {l:LS} {Q X:PostV}
theorem lt4 (h:i < 5):4+3*i < 24:=by exact om5 h rfl
theorem lt5 (h:i < 5):5+3*i < 24:=by exact om5 h rfl
theorem Rel.via (R:Rel most σ k p l) (h:∀ j,j < 24∨j=p.th->σ' j=σ j) (hk:24<=k') (ht:p.th < k'):Rel most σ' k' p l where
 low:=hk
 well:=(h _ (.inl (by decide))).trans R.well
 lim:=(h _ (.inl (by decide))).trans R.lim
 mem:=(h _ (.inl (by decide))).trans R.mem
 made:=R.made.imp fun uu e=>(h _ (.inl (by decide))).trans e
 body:=fun i hi=>(h _ (.inl (lt4 hi))).trans (R.body i hi)
 ent:=fun i hi=>(R.ent i hi).imp fun uu e=>(h _ (.inl (lt5 hi))).trans e
 accs:=(h _ (.inl (by decide))).trans R.accs
 prss:=(h _ (.inl (by decide))).trans R.prss
 state:=R.state.imp fun uu e=>(h _ (.inl (by decide))).trans e
 stack:=(h _ (.inl (by decide))).trans R.stack
 thin:=(h _ (.inr rfl)).trans R.thin
 th1:=R.th1
 th2:=ht
theorem Rel.mono (R:Rel most σ k p l) (h:Low k σ σ') (hk:k<=k'):Rel most σ' k' p l:=R.via (fun j hj=>h j (hj.elim (fun q=>nD q R.low) fun e=>e▸R.th2)) (nA R.low hk) (nD R.th2 hk)
theorem Rel.restr (R:Rel most σ k p l) (k₀:Nat) (h1:24<=k₀) (h2:p.th < k₀):Rel most (restr k₀ σ) k p l:=R.via (fun j hj=>restr_low _ (hj.elim (fun q=>nD q h1) fun e=>e▸h2)) R.low R.th2
theorem Rel.fresh (R:Rel most σ k p l) (c:Cell):Rel most (upd σ k c) (k+1) p l:=R.mono (fun j hj=>upd_other _ _ (nH hj)) (Nat.le_succ _)
theorem w8 (R:Rel most σ k p l) (hi:i < 5) (h:∀ σ',Low k σ σ'->Q (.int (p.acc i)) k σ'):L (n+1) (.fn 8) [dthing i] k σ Q X:=by
 refine run_fn (fn:=fn8) rfl rfl rfl (onI (R.body i hi) ?_)
 exact h _ (Low.refl k σ).restr
theorem w9 (R:Rel most σ k p l) (hi:i < 5) (h:∀ σ',Low k σ σ'->Q (.bool (decide (2<=p.acc i))) k σ'):L (n+2) (.fn 9) [dthing i] k σ Q X :=
 run_fn (fn:=fn9) rfl rfl rfl (w8 R hi fun σ' h'=>h _ h'.restr)
theorem w10 (R:Rel most σ k p l) (hi:i < 5) (h:∀ σ',Low k σ σ'->Q (.bool (decide (p.acc i=3))) k σ'):L (n+2) (.fn 10) [dthing i] k σ Q X :=
 run_fn (fn:=fn10) rfl rfl rfl (w8 R hi fun σ' h'=>h _ h'.restr)
noncomputable def bInv:AV:=.bytes [105,110,118,97,108,105,100,97,99,99,101,115,115]
theorem w15 (R:Rel most σ k p l) (hi:i < 5) (h:2<=p.acc i->∀ σ',Low k σ σ'->Q .none k σ') (hx:¬ 2<=p.acc i->∀ σ',Low k σ σ'->X bInv k σ'):L (n+3) (.fn 15) [dthing i] k σ Q X:=by
 refine run_fn (fn:=fn15) rfl rfl rfl (w9 R hi fun σ' h'=>?_)
 by_cases q:2<=p.acc i
 ·rw [decide_eq_true q];exact h q _ h'.restr
 ·rw [decide_eq_false q];exact hx q _ h'.restr
end
end B
namespace B
abbrev Prs:=List (Nat×Int)
noncomputable def lk:Prs->Nat->Option Int
 | [],_=>none
 | q :: r,j=>cond (Nat.beq q.1 j) (some q.2) (lk r j)
noncomputable def put:Prs->Nat->Int->Prs
 | [],j,v=>[(j,v)]
 | q :: r,j,v=>cond (Nat.beq q.1 j) ((q.1,v) :: r) (q :: put r j v)
noncomputable def rem:Prs->Nat->Prs
 | [],_=>[]
 | q :: r,j=>cond (Nat.beq q.1 j) r (q :: rem r j)
structure Fine (l:Prs):Prop where
 keys:∀ q∈l,q.1 < 4/\0<=q.2/\q.2 < 6
 nd:(l.map (·.1)).Nodup
theorem Fine.tail {q:Nat×Int} {r:Prs} (h:Fine (q :: r)):Fine r:=⟨fun x hx=>h.keys x (.tail _ hx),(nB1.mp h.nd).2⟩
theorem kword_eq:∀ a:Nat,a < 4->∀ b:Nat,b < 4->keyEq (kword a) (kword b)=Nat.beq a b:=by decide +kernel
theorem kword_kind:∀ j:Nat,keyKind (kword j)=3
 | 0=>rfl
 | 1=>rfl
 | 2=>rfl
 | _+3=>rfl
theorem kkw {j:Nat} {P:Prop} (h:P):kkC 3 (kword j) P:=cT (by rw [kword_kind];rfl) h
theorem beq_e {a b:Nat} {C:Bool->Prop} (f:a=b->C true) (g:a≠b->C false):C (Nat.beq a b):=by
 cases q:Nat.beq a b with
 | true=>exact f (nE q)
 | false=>exact g fun e=>by subst e;exact nomatch q.symm.trans (Nat.beq_refl a)
theorem dget_entry:∀ {l:Prs} {j:Nat},Fine l->j < 4->dget (l.map entry) (kword j)=(lk l j).map fun v=>.tup [kthing j,vthing v]
 | [],_,_,_=>rfl
 | q :: r,j,h,hj=>by
  have ih:=dget_entry h.tail hj
  show cond (keyEq (kword q.1) (kword j)) (some (AV.tup [kthing q.1,vthing q.2])) (dget (r.map entry) (kword j))=(cond (Nat.beq q.1 j) (some q.2) (lk r j)).map _
  rw [kword_eq _ (h.keys q (.head _)).1 _ hj]
  exact beq_e (C:=fun b=>cond b _ _=(cond b _ _:Option Int).map _) (fun e=>by subst e;rfl) fun uu=>ih
theorem dput_entry {v:Int}:∀ {l:Prs} {j:Nat},Fine l->j < 4->dput (l.map entry) (kword j) (.tup [kthing j,vthing v])=(put l j v).map entry
 | [],_,_,_=>rfl
 | q :: r,j,h,hj=>by
  have ih:=dput_entry (v:=v) h.tail hj
  show cond (keyEq (kword q.1) (kword j)) ((kword q.1,AV.tup [kthing j,vthing v]) :: r.map entry) (entry q :: dput (r.map entry) (kword j) _)=(cond (Nat.beq q.1 j) ((q.1,v) :: r) (q :: put r j v)).map entry
  rw [kword_eq _ (h.keys q (.head _)).1 _ hj]
  exact beq_e (C:=fun b=>cond b _ _=(cond b _ _:Prs).map entry) (fun e=>by subst e;rfl) fun uu=>congrArg (entry q :: ·) ih
theorem ddel_entry:∀ {l:Prs} {j:Nat},Fine l->j < 4->ddel (l.map entry) (kword j)=(rem l j).map entry
 | [],_,_,_=>rfl
 | q :: r,j,h,hj=>by
  have ih:=ddel_entry h.tail hj
  show cond (keyEq (kword q.1) (kword j)) (r.map entry) (entry q :: ddel (r.map entry) (kword j))=(cond (Nat.beq q.1 j) r (q :: rem r j)).map entry
  rw [kword_eq _ (h.keys q (.head _)).1 _ hj]
  exact beq_e (C:=fun b=>cond b _ _=(cond b _ _:Prs).map entry) (fun uu=>rfl) fun uu=>congrArg (entry q :: ·) ih
theorem lk_mem {j:Nat} {v:Int}:∀ {l:Prs},lk l j=some v->(j,v)∈l
 | [],h=>nomatch h
 | q :: r,h=>beq_e (a:=q.1) (b:=j) (C:=fun b=>cond b (some q.2) (lk r j)=some v->(j,v)∈q :: r) (fun e h=>by subst e;exact oJ h▸.head _) (fun uu h=>.tail _ (lk_mem h)) h
theorem lk_none {j:Nat}:∀ {l:Prs},lk l j=none->j ∉ l.map (·.1)
 | [],_=>nofun
 | q :: r,h=>beq_e (a:=q.1) (b:=j) (C:=fun b=>cond b (some q.2) (lk r j)=none->j ∉ q.1 :: r.map (·.1)) (fun uu h=>nomatch h) (fun n h e=>(nZ.mp e).elim (fun e=>n e.symm) (lk_none h)) h
theorem lk_some:∀ {l:Prs} {q:Nat×Int},Fine l->q∈l->lk l q.1=some q.2
 | x :: r,q,h,hq=>beq_e (a:=x.1) (b:=q.1) (C:=fun b=>cond b (some x.2) (lk r q.1)=some q.2) (fun e=>(nZ.mp hq).elim (fun e=>e▸rfl) fun hq=>absurd (List.mem_map.mpr ⟨q,hq,e.symm⟩) (nB1.mp h.nd).1)
   fun n=>(nZ.mp hq).elim (fun e=>absurd (e▸rfl) n) (lk_some h.tail)
theorem put_keys {j:Nat} {v:Int}:∀ {l:Prs},(put l j v).map (·.1)=(lk l j).casesOn (l.map (·.1) ++ [j]) fun uu=>l.map (·.1)
 | []=>rfl
 | q :: r=>beq_e (a:=q.1) (b:=j) (C:=fun b=>(cond b ((q.1,v) :: r) (q :: put r j v)).map (·.1)=(cond b (some q.2) (lk r j)).casesOn (q.1 :: r.map (·.1) ++ [j]) fun uu=>q.1 :: r.map (·.1)) (fun uu=>rfl) fun uu=>by
   show q.1 :: (put r j v).map (·.1)=_
   rw [put_keys (l:=r)]
   cases q:lk r j <;> rfl
theorem put_mem {j:Nat} {v:Int} {q:Nat×Int}:∀ {l:Prs},q∈put l j v->q=(j,v)∨q∈l
 | [],h=>.inl (List.mem_singleton.mp h)
 | x :: r,h=>beq_e (a:=x.1) (b:=j) (C:=fun b=>q∈cond b ((x.1,v) :: r) (x :: put r j v)->q=(j,v)∨q∈x :: r) (fun e h=>(nZ.mp h).imp (fun h=>e▸h) (.tail _)) (fun uu h=>(nZ.mp h).elim (fun e=>.inr (e▸.head _)) fun h=>(put_mem h).imp id (.tail _)) h
theorem Fine.put {l:Prs} {j:Nat} {v:Int} (h:Fine l) (hj:j < 4) (h0:0<=v) (h6:v < 6):Fine (put l j v) where
 keys:=fun q hq=>(put_mem hq).elim (fun e=>e▸⟨hj,h0,h6⟩) (h.keys q)
 nd:=by
  rw [put_keys]
  cases e:lk l j with
  | none=>exact List.nodup_append.mpr ⟨h.nd,List.pairwise_singleton _ _,fun a ha b hb e'=>lk_none e (List.mem_singleton.mp hb▸e'▸ha)⟩
  | some=>exact h.nd
theorem rem_sub {j:Nat}:∀ {l:Prs},(rem l j).Sublist l
 | []=>.slnil
 | q :: r=>beq_e (a:=q.1) (b:=j) (C:=fun b=>(cond b r (q :: rem r j)).Sublist (q :: r)) (fun uu=>List.sublist_cons_self _ _) fun uu=>rem_sub.cons_cons _
theorem Fine.rem {l:Prs} {j:Nat} (h:Fine l):Fine (rem l j):=⟨fun q hq=>h.keys q (rem_sub.subset hq),(rem_sub.map _).nodup h.nd⟩
theorem Fine.length {l:Prs} (h:Fine l):l.length<=4 :=
 (nY (as:=l) (·.1))▸List.Nodup.length_le_of_subset (l₂:=List.range 4) h.nd fun x hx=>(List.mem_map.mp hx).elim fun q e=>e.2▸List.mem_range.mpr (h.keys q e.1).1
structure Ok (p:PS):Prop where
 stk:∀ j∈p.stk,j < 5
 len:3<=p.stk.length/\p.stk.length<=6
 acc:∀ i,1<=p.acc i/\p.acc i<=3
 prs:∀ i,Fine (p.prs i)
 mst:∀ i,p.mst i=2∨p.mst i=3∨p.mst i=4∨p.mst i=8
end B
namespace B
theorem comp_rule {elt:Vars->Nat->Store->PostV->Prop} {ok:Vars->Nat->Store->(Bool->Nat->Store->Prop)->Prop} {t:T} {inv:Store->Prop} (V:Vars->Prop) (J:Nat->Store->Prop) (f:AV->Option AV) (hi:∀ k σ,J k σ->inv σ) {Q:List AV->Nat->Store->Prop} :
  ∀ (items acc:List AV) (vars:Vars) (k:Nat) (σ:Store),V vars->J k σ ->
   (∀ v∈items,∀ vars,V vars->∃ vars',asT t v vars=some vars'/\V vars'/\(∀ k σ (Qb:Bool->Nat->Store->Prop),J k σ->(∀ k' σ',J k' σ'->Qb (f v).isSome k' σ')->ok vars' k σ Qb) /\
    ∀ a,f v=some a->∀ k σ (Qe:PostV),J k σ->(∀ k' σ',J k' σ'->Qe a k' σ')->elt vars' k σ Qe) ->
   (∀ k' σ',J k' σ'->Q (acc ++ items.filterMap f) k' σ')->compW elt ok t inv items acc vars k σ Q
 | [],acc,vars,k,σ,hV,hJ,hs,hQ=>⟨hi k σ hJ,List.append_nil acc▸hQ k σ hJ⟩
 | v :: vs,acc,vars,k,σ,hV,hJ,hs,hQ=>by
  refine eX1 (hs v (.head _) vars hV) fun vars' qA0=>eD4 qA0 fun h1 h2 h3 h4=>?_
  refine ⟨hi k σ hJ,okI h1 (h3 k σ _ hJ fun k' σ' hJ'=>?_)⟩
  cases hf:f v with
  | none =>
   rw [List.filterMap_cons_none hf] at hQ
   exact comp_rule V J f hi vs acc vars' k' σ' h2 hJ' (fun u hu=>hs u (.tail _ hu)) hQ
  | some a =>
   rw [List.filterMap_cons_some hf] at hQ
   exact h4 a hf k' σ' _ hJ' fun k'' σ'' hJ''=>comp_rule V J f hi vs (acc ++ [a]) vars' k'' σ'' h2 hJ'' (fun u hu=>hs u (.tail _ hu)) fun k3 σ3 h=>(List.append_assoc acc [a] _).symm▸hQ k3 σ3 h
theorem comp_all {elt:Vars->Nat->Store->PostV->Prop} {ok:Vars->Nat->Store->(Bool->Nat->Store->Prop)->Prop} {t:T} {inv:Store->Prop} (V:Vars->Prop) (J:Nat->Store->Prop) (f:AV->AV) (hi:∀ k σ,J k σ->inv σ) {Q:List AV->Nat->Store->Prop}
  {items:List AV} {vars:Vars} {k:Nat} {σ:Store} (hV:V vars) (hJ:J k σ) (hok:∀ vars k σ Qb,Qb true k σ->ok vars k σ Qb)
  (hs:∀ v∈items,∀ vars,V vars->∃ vars',asT t v vars=some vars'/\V vars'/\∀ k σ (Qe:PostV),J k σ->(∀ k' σ',J k' σ'->Qe (f v) k' σ')->elt vars' k σ Qe)
  (hQ:∀ k' σ',J k' σ'->Q (items.map f) k' σ'):compW elt ok t inv items [] vars k σ Q :=
 comp_rule V J (fun v=>some (f v)) hi items [] vars k σ hV hJ (fun v hv vars hV=>(hs v hv vars hV).imp fun vars' h=>⟨h.1,h.2.1,fun k σ Qb hJ hq=>hok _ _ _ _ (hq k σ hJ),fun a ha k σ Qe hJ hq=>h.2.2 k σ Qe hJ (oJ ha▸hq)⟩)
  fun k' σ' h=>(List.filterMap_eq_map (f:=f)▸hQ k' σ' h:Q (items.filterMap fun v=>some (f v)) k' σ')
theorem for_rule {t:T} {body:Vars->Nat->Store->PostN->Prop} {inv:Store->Prop} (J:List AV->Vars->Nat->Store->Prop) (hi:∀ rest vars k σ,J rest vars k σ->inv σ) {N:PostN}
  (hs:∀ v rest vars k σ,J (v :: rest) vars k σ->∃ vars',asT t v vars=some vars'/\∀ N':PostN,(∀ vars k σ,J rest vars k σ->N' vars k σ)->body vars' k σ N') (hN:∀ vars k σ,J [] vars k σ->N vars k σ) :
  ∀ (items:List AV) (vars:Vars) (k:Nat) (σ:Store),J items vars k σ->forW t body inv items vars k σ N
 | [],vars,k,σ,h=>⟨hi _ _ _ _ h,hN _ _ _ h⟩
 | v :: vs,vars,k,σ,h=>(hs v vs vars k σ h).elim fun vars' q=>⟨hi _ _ _ _ h,okI q.1 (q.2 _ fun vars k σ h'=>for_rule J hi hs hN vs vars k σ h')⟩
noncomputable def Still (k₀:Nat) (σ₀:Store) (k:Nat) (σ:Store):Prop:=k₀<=k/\Low k₀ σ₀ σ
theorem Still.refl (k:Nat) (σ:Store):Still k σ k σ:=⟨nB _,Low.refl _ _⟩
theorem Still.trans {a b c:Nat} {σ σ' σ'':Store} (h:Still a σ b σ') (h':Still b σ' c σ''):Still a σ c σ'':=⟨nA h.1 h'.1,h.2.trans h'.2 h.1⟩
theorem Still.restr {a b:Nat} {σ σ':Store} (h:Still a σ b σ'):Still a σ b (restr a σ'):=⟨h.1,h.2.restr⟩
theorem Rel.still {most:Int} {k k':Nat} {σ σ':Store} {p:PS} {l:LS} (R:Rel most σ k p l) (h:Still k σ k' σ'):Rel most σ' k' p l:=R.mono h.2 h.1
noncomputable def rowV (q:Nat×Int):AV:=.tup [kthing q.1,vthing q.2]
theorem keysOf_entry (l:Prs):keysOf (l.map entry)=l.map fun q=>kword q.1:=List.map_map
theorem fewI {α:Type} {l:List α} {P:Prop} (h:l.length < 1000) (p:P):few l P:=cT (nJ h) p
theorem fewM {α β:Type} {f:α->β} {l:List α} {P:Prop} (m:Nat) (h:l.length<=m) (hm:Nat.blt m 1000=true) (p:P):few (l.map f) P:=fewI ((nY f).symm▸nF h (nC hm)) p
section
variable {most:Int} {n i j:Nat} {σ:Store} {k:Nat} {p:PS} {l:LS} {Q X:PostV}
theorem w14 (R:Rel most σ k p l) (O:Ok p) (hi:i < 5) (h:∀ k' σ',Still k σ k' σ'->Q (.int (p.prs i).length) k' σ'):L (n+1) (.fn 14) [.cell (4+3*i)] k σ Q X :=
 (R.ent i hi).elim fun ep he=>run_fn (fn:=fn14) rfl rfl rfl (onI (R.body i hi) (onD he (fewM 4 (O.prs i).length rfl (nY (as:=p.prs i) entry▸h _ _ (Still.refl k σ).restr))))
theorem w49 (R:Rel most σ k p l) (O:Ok p) (hi:i < 5) (h:∀ k' σ',Still k σ k' σ'->Q (.lst ((p.prs i).map rowV)) k' σ'):L (n+1) (.fn 49) [.cell (4+3*i)] k σ Q X:=by
 refine eX1 (R.ent i hi) fun ep he=>?_
 refine run_fn (fn:=fn49) rfl rfl rfl (onI (R.body i hi) (onD he ?_))
 have find:∀ w,(∃ q∈p.prs i,kword q.1=w)->∃ q∈p.prs i,kword q.1=w/\dget ((p.prs i).map entry) w=some (rowV q):=fun w ⟨q,hq,e⟩=>⟨q,hq,e,e▸(dget_entry (O.prs i) ((O.prs i).keys q hq).1).trans (lk_some (O.prs i) hq▸rfl)⟩
 refine fewI (keysOf_entry (p.prs i)▸(nY (as:=p.prs i) _).symm▸nF (O.prs i).length (by decide)) ?_
 refine comp_all (fun vars=>∃ x,vars=[none,x,some (.cell (4+3*i))]) (Still k σ) (fun w=>(dget ((p.prs i).map entry) w).getD .none) (fun k' σ' hJ=>(hJ.2 _ (nD (lt5 hi) R.low)).trans he) ⟨none,rfl⟩ (Still.refl k σ) (fun vars k σ Qb h=>h) (fun w hw vars hv=>?_) fun k' σ' hJ=>?_
 ·refine eX1 hv fun x eA2x1=>?_;obtain rfl:=eA2x1
  refine eX1 (find w (List.mem_map.mp (keysOf_entry _▸hw))) fun q qA3=>eD3 qA3 fun hq eA3x2 hg=>?_;obtain rfl:=eA3x2
  refine ⟨_,rfl,⟨_,rfl⟩,fun k' σ' Qe hJ hQ=>(R.still hJ).ent i hi |>.elim fun ep' he'=>onI ((R.still hJ).body i hi) (onD he' (kkw (okI hg ?_)))⟩
  have:=hQ k' σ' hJ
  rw [hg] at this
  exact this
 ·have e:((p.prs i).map fun q=>kword q.1).map (fun w=>(dget ((p.prs i).map entry) w).getD .none)=(p.prs i).map rowV:=by
   rw [List.map_map]
   exact List.map_congr_left fun q hq=>(find _ ⟨q,hq,rfl⟩).elim fun q' h=>show (dget _ (kword q.1)).getD _=_ by rw [dget_entry (O.prs i) ((O.prs i).keys q hq).1,lk_some (O.prs i) hq];rfl
  rw [keysOf_entry,e]
  exact h _ _ hJ.restr
theorem w48 (R:Rel most σ k p l) (O:Ok p) (hi:i < 5) (hj:j < 4) (h:∀ k' σ',Still k σ k' σ'->Q (((lk (p.prs i) j).map vthing).getD .none) k' σ'):L (n+1) (.fn 48) [.cell (4+3*i),kword j] k σ Q X:=by
 have hg:=dget_entry (O.prs i) hj
 refine eX1 (R.ent i hi) fun ep he=>?_
 refine run_fn (fn:=fn48) rfl rfl rfl (onI (R.body i hi) (onD he (kkw ?_)))
 rw [hg]
 cases hl:lk (p.prs i) j with
 | none=>rw [hl] at h;exact h _ _ (Still.refl k σ).restr
 | some v =>
  rw [hl] at h hg
  exact onI (R.body i hi) (onD he (kkw (okI hg (h _ _ (Still.refl k σ).restr))))
theorem w17 (R:Rel most σ k p l) (O:Ok p) (hi:i < 5) (hj:j < 3) {b:AV} (hb:kword j=.tup [.str sWord,b]) (h:∀ k' σ',Still k σ k' σ'->Q (((lk (p.prs i) j).map vthing).getD .none) k' σ'):L (n+2) (.fn 17) [.cell (4+3*i),b] k σ Q X:=by
 have w:=w48 (n:=n) (X:=fun v k' σ'=>X v k' (Mine.restr k σ')) R O hi (nX hj) (Q:=fun v k' σ'=>Q v k' (Mine.restr k σ')) fun k' σ' hS=>h _ _ hS.restr
 rw [hb] at w
 exact run_fn (fn:=fn17) rfl rfl rfl (onI (R.body i hi) w)
theorem w18 (R:Rel most σ k p l) (O:Ok p) (hi:i < 5) (h:∀ k' σ',Still k σ k' σ'->Q (.lst ((p.prs i).map rowV)) k' σ'):L (n+2) (.fn 18) [.cell (4+3*i)] k σ Q X :=
 run_fn (fn:=fn18) rfl rfl rfl (onI (R.body i hi) (w49 R O hi fun k' σ' hS=>fewM 4 (O.prs i).length rfl (h _ _ hS.restr)))
end
end B
namespace B
noncomputable def sumM (p:PS):Int:=p.mst 0+p.mst 1+p.mst 2+p.mst 3+p.mst 4
theorem Ok.mb {p:PS} (O:Ok p) (i:Nat):2<=p.mst i/\p.mst i<=8:=by
 rcases O.mst i with h | h | h | h <;> rw [h] <;> decide
theorem add2 {a b c d x y:Int} (h:a<=x/\x<=b) (h':c<=y/\y<=d):a+c<=x+y/\x+y<=b+d:=⟨Int.add_le_add h.1 h'.1,Int.add_le_add h.2 h'.2⟩
theorem Ok.sum {p:PS} (O:Ok p):10<=sumM p/\sumM p<=40:=add2 (add2 (add2 (add2 (O.mb 0) (O.mb 1)) (O.mb 2)) (O.mb 3)) (O.mb 4)
theorem smI {i:Int} {P:Prop} (h:-1000000<=i/\i<=1000000) (p:P):smallC i P:=cT (nJ (om98 h rfl:i.natAbs+1<=2 ^ 60)) p
section
variable {most:Int} {n i j:Nat} {σ:Store} {k:Nat} {p:PS} {l:LS} {Q X:PostV}
theorem w72 (R:Rel most σ k p l) (O:Ok p) {c:Int} (h0:0<=c) (h1:c < 1000) (h:∀ k' σ',Still k σ k' σ'->Q .none k' σ'):L (n+1) (.fn 72) [.cell 2,.int c] k σ Q X:=by
 have hs:=O.sum
 unfold sumM at hs
 refine run_fn (fn:=fn72) rfl rfl rfl (onI R.mem (onI R.mem (smI (by exact om22 hs rfl) (smI (by decide) (smI (by exact om141 hs rfl) (smI (by exact om20 h0 h1 rfl) (onI R.mem (onI R.lim (dF (by exact om142 hs h1) (h _ _ (Still.refl k σ).restr))))))))))
theorem w69r {fm:List (Nat×AV)} (hm:σ 2=some (.inst 6 fm)) (h49:fget fm 49=some (.lst [])) (h:∀ k' σ',Still k σ k' σ'->Q (.int 0) k' σ'):L (n+1) (.fn 69) [.cell 2] k σ Q X :=
 run_fn (fn:=fn69) rfl rfl rfl (onI hm (okI h49 (h _ _ (Still.refl k σ).restr)))
theorem w74r {b:Nat} {fm fb:List (Nat×AV)} (hm:σ 2=some (.inst 6 fm)) (h49:fget fm 49=some (.lst [])) (hb:σ b=some (.inst 2 fb)) (h7:fget fb 7=some (.bool false)) (h8:fget fb 8=some (.int 0)) (h:∀ k' σ',Still k σ k' σ'->Q (.bool false) k' σ'):L (n+2) (.fn 74) [.cell 2,.cell b] k σ Q X :=
 run_fn (fn:=fn74) rfl rfl rfl (onI hb (okI h7 (onI hb (okI h8 (onI hm (w69r hm h49 fun k' σ' hS=>h _ _ hS.restr))))))
theorem w74 (R:Rel most σ k p l) (hi:i < 5) (h:∀ k' σ',Still k σ k' σ'->Q (.bool false) k' σ'):L (n+2) (.fn 74) [.cell 2,.cell (4+3*i)] k σ Q X:=w74r R.mem rfl (R.body i hi) rfl rfl h
theorem w75 (R:Rel most σ k p l) (hi:i < 5) {a:AV} (h:∀ k' σ',Still k σ k' σ'->Q .none k' σ'):L (n+1) (.fn 75) [.cell 2,.cell (4+3*i),a] k σ Q X :=
 run_fn (fn:=fn75) rfl rfl rfl (onI (R.body i hi) (h _ _ (Still.refl k σ).restr))
theorem nb {i j:Nat} (h:i < 5) (hj:(Nat.blt j 4||Nat.blt 16 j)=true):j≠4+3*i:=fun e=>by
 have:=e▸hj
 rcases Bool.or_eq_true_iff.mp hj with h | h <;> have:=nC h <;> omega
theorem n54 {i j:Nat}:5+3*j≠4+3*i:=by exact om3
theorem n44 {i j:Nat} (h:j≠i):4+3*j≠4+3*i:=by exact om2 h
theorem Rel.grow (R:Rel most σ k p l) (hi:i < 5) {ep:Nat}:Rel most (upd (upd (upd σ 3 (.dict 0 (m5 fun j=>madeV (set1 p.mst i 8 j)) ep)) 2 (.inst 6 (memF { p with mst:=set1 p.mst i 8 }))) (4+3*i) (.inst 2 (bodyF { p with mst:=set1 p.mst i 8 } i))) k { p with mst:=set1 p.mst i 8 } l:=by
 have o:∀ {j},j≠3->j≠2->j≠4+3*i->upd (upd (upd σ 3 (.dict 0 (m5 fun j=>madeV (set1 p.mst i 8 j)) ep)) 2 (.inst 6 (memF { p with mst:=set1 p.mst i 8 }))) (4+3*i) (.inst 2 (bodyF { p with mst:=set1 p.mst i 8 } i)) j=σ j:=fun a b c=>(upd_other _ _ c).trans ((upd_other _ _ b).trans (upd_other _ _ a))
 have t:∀ {j},(Nat.blt j 2||Nat.blt 16 j)=true->j≠3/\j≠2/\j≠4+3*i:=fun {j} h=>⟨fun e=>(by subst e;exact nomatch h),fun e=>(by subst e;exact nomatch h),nb hi (by
  rcases Bool.or_eq_true_iff.mp h with h | h
  ·exact Bool.or_eq_true_iff.mpr (.inl (nJ (nA (nC h) (by decide))))
  ·exact Bool.or_eq_true_iff.mpr (.inr h))⟩
 have oo:∀ {j},(Nat.blt j 2||Nat.blt 16 j)=true->_=σ j:=fun h=>o (t h).1 (t h).2.1 (t h).2.2
 exact ⟨R.low,(oo rfl).trans R.well,(oo rfl).trans R.lim,(upd_other _ _ (nb hi rfl)).trans (upd_same _ _ _),⟨ep,(upd_other _ _ (nb hi rfl)).trans ((upd_other _ _ (by decide)).trans (upd_same _ _ _))⟩,
  fun j hj=>(Decidable.em (j=i)).elim (fun q=>by subst q;exact upd_same _ _ _) fun q=>(o (by exact om1 rfl) (by exact om1 rfl) (n44 q)).trans ((R.body j hj).trans (by unfold bodyF;dsimp only;rw [set1_other _ _ q])),
  fun j hj=>(R.ent j hj).imp fun uu e=>(o (by exact om1 rfl) (by exact om1 rfl) n54).trans e,(oo rfl).trans R.accs,(oo rfl).trans R.prss,R.state.imp fun uu e=>(oo rfl).trans e,(oo rfl).trans R.stack,
  (oo (Bool.or_eq_true_iff.mpr (.inr (nJ (nA (by decide) R.th1))))).trans R.thin,R.th1,R.th2⟩
theorem Rel.grow' (R:Rel most σ k p l) (hi:i < 5) {made':List (AV×AV)} {ep:Nat} {cm cb:Cell} (h1:cm=.inst 6 (memF { p with mst:=set1 p.mst i 8 })) (h2:cb=.inst 2 (bodyF { p with mst:=set1 p.mst i 8 } i)) (hm:made'=m5 fun j=>madeV (set1 p.mst i 8 j)) :
  Rel most (upd (upd (upd σ 3 (.dict 0 made' ep)) 2 cm) (4+3*i) cb) k { p with mst:=set1 p.mst i 8 } l:=by
 subst h1 h2 hm;exact R.grow hi
theorem sum_set {f:Nat->Int} {a:Int}:∀ {i:Nat},i < 5->set1 f i a 0+set1 f i a 1+set1 f i a 2+set1 f i a 3+set1 f i a 4=f 0+f 1+f 2+f 3+f 4+(a - f i)
 | 0,_=>by show a+f 1+f 2+f 3+f 4=_;exact om153s (om153s (om153s (om153s om151)))
 | 1,_=>by show f 0+a+f 2+f 3+f 4=_;exact om153s (om153s (om153s om152))
 | 2,_=>by show f 0+f 1+a+f 3+f 4=_;exact om153s (om153s om152)
 | 3,_=>by show f 0+f 1+f 2+a+f 4=_;exact om153s om152
 | 4,_=>by show f 0+f 1+f 2+f 3+a=_;exact om152
theorem Low.upd2 {k:Nat} {σ σ':Store} (a:Low k σ σ') (i:Nat) (c:Cell):Low k (Mine.upd σ i c) (Mine.upd σ' i c):=fun j hj=>by
 unfold Mine.upd
 split
 ·rfl
 ·exact a j hj
theorem Ok.grow (O:Ok p) (i:Nat):Ok { p with mst:=set1 p.mst i 8 }:=⟨O.stk,O.len,O.acc,O.prs,set1_all (P:=fun m=>m=2∨m=3∨m=4∨m=8) O.mst (.inr (.inr (.inr rfl)))⟩
theorem w76 (R:Rel most σ k p l) (O:Ok p) (hi:i < 5) (h8:p.mst i≠8) (h:∀ k' σ',k<=k'->Rel most σ' k' { p with mst:=set1 p.mst i 8 } l->Q .none k' σ'):L (n+3) (.fn 76) [.cell 2,.cell (4+3*i)] k σ Q X:=by
 have hm:=O.mb i
 have h4:p.mst i<=4:=by rcases O.mst i with h | h | h | h <;> first | exact absurd h h8 | (rw [h];decide)
 have hM:min (max (2*p.mst i) 8) 65535=8:=by exact om153 h4
 have hb:=R.body i hi
 refine run_fn (fn:=fn76) rfl rfl rfl (onI hb (smI (by exact om18 hm rfl) (onI R.mem (onI R.lim (onI hb (dF (by exact om143 hm) (onI hb (smI (by exact om144 rfl) (smI (by exact om18 hm rfl) (smI (by exact om117 hm rfl) (onI R.mem (w72 R O (by exact om115 hm) (by exact om116 hm rfl) fun k1 σ1 S1=>?_))))))))))))
 have R1:=R.still S1
 refine eX1 R1.made fun ep1 hm1=>?_
 have hb1:=R1.body i hi
 have g:=m5_get (fun j=>madeV (p.mst j)) hi
 have n3:4+3*i≠3:=Ne.symm (nb hi rfl)
 have n2:4+3*i≠2:=Ne.symm (nb hi rfl)
 refine onI hb1 (onI R1.mem (onD hm1 (isS g (onI R1.mem (onI hb1 (onD hm1 (okI g (smI (by exact om22 hm rfl) (smI (by exact om97 hm rfl) (onI hb1 (onI hb1 (onI R1.mem (onI hb1 (onD hm1 fun ep2=>?_))))))))))))))
 have hs:=O.sum
 unfold sumM at hs
 have e2:∀ {c:Cell},upd σ1 3 c 2=_:=fun {c}=>(upd_other _ _ (by decide)).trans R1.mem
 refine onI ((upd_other _ _ n3).trans hb1) (onI e2 (smI (by exact om22 hs rfl) (smI (by exact om97 hm rfl) (onI e2 (onI (upd_same _ _ _) (w74r (upd_same _ _ _) rfl ((upd_other _ _ n2).trans ((upd_other _ _ n3).trans hb1)) rfl rfl fun k2 σ2 S2=>?_))))))
 refine onI ((S2.2 _ (nD (lt4 hi) R1.low)).trans ((upd_other _ _ n2).trans ((upd_other _ _ n3).trans hb1))) ?_
 refine h _ _ (nA S1.1 S2.1) (((?_:Rel most _ k1 _ l).mono (S2.2.upd2 _ _) S2.1).restr k R.low R.th2)
 have hv:16*p.mst i+16*(min (max (2*p.mst i) 8) 65535 - p.mst i)=16*8:=by exact om154.trans (congrArg (16*·) hM)
 refine R1.grow' hi (congrArg (Cell.inst 6) (congrArg (fput (memF p) 60) (congrArg AV.int ?_))) (congrArg (Cell.inst 2) ((congrArg (fput (bodyF p i) 6) (congrArg AV.int (hM.trans (if_pos rfl:set1 p.mst i 8 i=8).symm))))) ((m5_put _ _ hi).trans (congrArg m5 ((congrArg (set1 (fun j=>madeV (p.mst j)) i) (congrArg (fun x=>AV.tup [.int x,.bool false,.int 0]) hv)).trans (set1_map madeV p.mst i 8).symm)))
 have:=sum_set (f:=p.mst) (a:=8) hi
 show _=16*(set1 p.mst i 8 0+set1 p.mst i 8 1+set1 p.mst i 8 2+set1 p.mst i 8 3+set1 p.mst i 8 4)
 omega
end
end B
namespace B
theorem nb5 {i j:Nat} (h:i < 5) (hj:(Nat.blt j 5||Nat.blt 17 j)=true):j≠5+3*i:=fun e=>by
 rcases Bool.or_eq_true_iff.mp hj with h | h <;> have:=nC h <;> omega
theorem n45 {i j:Nat}:4+3*j≠5+3*i:=by exact om4
theorem n55 {i j:Nat} (h:j≠i):5+3*j≠5+3*i:=by exact om2 h
theorem th_big {t m:Nat} (h:23<=t) (hm:Nat.blt m 23=true):t≠m:=fun e=>nT t (nD (e▸nC hm:t < 23) h)
noncomputable def sDrop:Nat->S->S
 | 0,s=>s
 | n+1,.cons _ ss=>sDrop n ss
 | _,s=>s
theorem nS {α:Type} {o:Option α} {x:α} {P Q:Prop} (e:o=some x) (q:Q):cond (!o.isSome) P Q:=cF (e▸rfl) q
theorem nN {α:Type} {o:Option α} {P Q:Prop} (e:o=none) (q:P):cond (!o.isSome) P Q:=cT (e▸rfl) q
section
variable {most:Int} {n i j:Nat} {σ:Store} {k:Nat} {p:PS} {l:LS} {Q X:PostV}
theorem Rel.t4 (R:Rel most σ k p l) (hi:i < 5):p.th≠4+3*i:=nb hi (Bool.or_eq_true_iff.mpr (.inr (nJ (nA (by decide) R.th1))))
theorem Rel.t5 (R:Rel most σ k p l) (hi:i < 5):p.th≠5+3*i:=nb5 hi (Bool.or_eq_true_iff.mpr (.inr (nJ (nA (by decide) R.th1))))
theorem Rel.setAcc (R:Rel most σ k p l) (hi:i < 5) (a:Int) {c:Cell} (hc:c=.inst 2 (bodyF { p with acc:=set1 p.acc i a } i)):Rel most (upd σ (4+3*i) c) k { p with acc:=set1 p.acc i a } l:=by
 subst hc
 have o:∀ {j c},(Nat.blt j 4||Nat.blt 16 j)=true->upd σ (4+3*i) c j=σ j:=fun h=>upd_other _ _ (nb hi h)
 exact ⟨R.low,(o rfl).trans R.well,(o rfl).trans R.lim,(o rfl).trans R.mem,R.made.imp fun uu e=>(o rfl).trans e,
  fun j hj=>(Decidable.em (j=i)).elim (fun q=>by subst q;exact upd_same _ _ _) fun q=>(upd_other _ _ (n44 q)).trans ((R.body j hj).trans (by unfold bodyF;dsimp only;rw [set1_other _ _ q])),
  fun j hj=>(R.ent j hj).imp fun uu e=>(upd_other _ _ n54).trans e,(o rfl).trans R.accs,(o rfl).trans R.prss,R.state.imp fun uu e=>(o rfl).trans e,(o rfl).trans R.stack,(upd_other _ _ (R.t4 hi)).trans R.thin,R.th1,R.th2⟩
theorem Rel.setEnt (R:Rel most σ k p l) (hi:i < 5) (q:Prs) (ep:Nat):Rel most (upd σ (5+3*i) (.dict 3 (q.map entry) ep)) k { p with prs:=set1 p.prs i q } l:=by
 have o:∀ {j c},(Nat.blt j 5||Nat.blt 17 j)=true->upd σ (5+3*i) c j=σ j:=fun h=>upd_other _ _ (nb5 hi h)
 exact ⟨R.low,(o rfl).trans R.well,(o rfl).trans R.lim,(o rfl).trans R.mem,R.made.imp fun uu e=>(o rfl).trans e,fun j hj=>(upd_other _ _ n45).trans (R.body j hj),
  fun j hj=>(Decidable.em (j=i)).elim (fun e=>⟨ep,by subst e;exact (upd_same _ _ _).trans (by dsimp only;rw [set1_same])⟩) fun e=>(R.ent j hj).imp fun uu h=>(upd_other _ _ (n55 e)).trans (h.trans (by dsimp only;rw [set1_other _ _ e])),
  (o rfl).trans R.accs,(o rfl).trans R.prss,R.state.imp fun uu e=>(o rfl).trans e,(o rfl).trans R.stack,(upd_other _ _ (R.t5 hi)).trans R.thin,R.th1,R.th2⟩
theorem Rel.setThings (R:Rel most σ k p l) (s:List Nat):Rel most (upd σ p.th (.list (s.map dthing))) k { p with stk:=s } l:=by
 have o:∀ {j c},Nat.blt j 23=true->upd σ p.th c j=σ j:=fun h=>upd_other _ _ (th_big R.th1 h).symm
 exact ⟨R.low,(o rfl).trans R.well,(o rfl).trans R.lim,(o rfl).trans R.mem,R.made.imp fun uu e=>(o rfl).trans e,fun j hj=>(upd_other _ _ (R.t4 hj).symm).trans (R.body j hj),
  fun j hj=>(R.ent j hj).imp fun uu e=>(upd_other _ _ (R.t5 hj).symm).trans e,(o rfl).trans R.accs,(o rfl).trans R.prss,R.state.imp fun uu e=>(o rfl).trans e,(o rfl).trans R.stack,upd_same _ _ _,R.th1,R.th2⟩
theorem w11 {b:AV} (h:∀ σ',Low k σ σ'->Q b k σ'):L (n+1) (.fn 11) [thing sName b] k σ Q X:=run_fn (fn:=fn11) rfl rfl rfl (h _ (Low.refl k σ).restr)
theorem w3 {b:AV} (h:∀ σ',Low k σ σ'->Q (.bool true) k σ'):L (n+1) (.fn 3) [thing sInt b] k σ Q X:=run_fn (fn:=fn3) rfl rfl rfl (h _ (Low.refl k σ).restr)
theorem w4 {v:Int} (hv:-1000<=v/\v<=1000) (h:∀ σ',Low k σ σ'->Q (.int (v*1000000)) k σ'):L (n+1) (.fn 4) [thing sInt (.int v)] k σ Q X:=run_fn (fn:=fn4) rfl rfl rfl (smI (by exact om18 hv rfl) (smI (by decide) (h _ (Low.refl k σ).restr)))
theorem w12n {b:AV} (h:∀ σ',Low k σ σ'->Q (.tup [.str sWord,b]) k σ'):L (n+2) (.fn 12) [thing sName b] k σ Q X:=run_fn (fn:=fn12) rfl rfl rfl (w11 fun σ' h'=>h _ h'.restr)
theorem w12i {v:Int} (hv:-1000<=v/\v<=1000) (h:∀ σ',Low k σ σ'->Q (.tup [.str sNumber,.int (v*1000000)]) k σ'):L (n+2) (.fn 12) [thing sInt (.int v)] k σ Q X :=
 run_fn (fn:=fn12) rfl rfl rfl (w3 fun σ1 h1=>w4 hv fun σ2 h2=>h _ (h1.trans h2 (nB _)).restr)
theorem w12 (h:∀ σ',Low k σ σ'->Q (kword j) k σ'):L (n+2) (.fn 12) [kthing j] k σ Q X:=match j,h with
 | 0,h=>w12n h
 | 1,h=>w12n h
 | 2,h=>w12n h
 | _+3,h=>w12i (by decide) h
theorem w13 (h:∀ σ',Low k σ σ'->Q (kthing j) k σ'):L (n+1) (.fn 13) [kthing j] k σ Q X:=match j,h with
 | 0,h=>run_fn (fn:=fn13) rfl rfl rfl (h _ (Low.refl k σ).restr)
 | 1,h=>run_fn (fn:=fn13) rfl rfl rfl (h _ (Low.refl k σ).restr)
 | 2,h=>run_fn (fn:=fn13) rfl rfl rfl (h _ (Low.refl k σ).restr)
 | _+3,h=>run_fn (fn:=fn13) rfl rfl rfl (h _ (Low.refl k σ).restr)
theorem Ok.setPrs (O:Ok p) (i:Nat) {q:Prs} (h:Fine q):Ok { p with prs:=set1 p.prs i q }:=⟨O.stk,O.len,O.acc,set1_all (P:=Fine) O.prs h,O.mst⟩
theorem Ok.setAcc (O:Ok p) (i:Nat) {a:Int} (h1:1<=a) (h3:a<=3):Ok { p with acc:=set1 p.acc i a }:=⟨O.stk,O.len,set1_all (P:=fun a=>1<=a/\a<=3) O.acc ⟨h1,h3⟩,O.prs,O.mst⟩
theorem set1_self {α:Type} (f:Nat->α) (i:Nat):set1 f i (f i)=f:=funext fun j=>by unfold set1;split <;> first | (rename_i e;exact e▸rfl) | rfl
theorem put_end (R:Rel most σ k p l) (O:Ok p) (hi:i < 5) (hj:j < 4) {v:Int} (h0:0<=v) (h6:v < 6) {k₀:Nat} (hk:k₀<=k) (hk₀:24<=k₀) (hth:p.th < k₀)
  (h:∀ k' σ' m,k₀<=k'->Rel most σ' k' { p with prs:=set1 p.prs i (put (p.prs i) j v),mst:=m } l->Ok { p with prs:=set1 p.prs i (put (p.prs i) j v),mst:=m }->Q .none k' σ') {ep:Nat} {es:List (AV×AV)} (he:es=(put (p.prs i) j v).map entry) :
  Q .none k (restr k₀ (upd σ (5+3*i) (.dict 3 es ep))):=by
 subst he
 exact h _ _ _ hk ((R.setEnt hi _ ep).restr _ hk₀ hth) (O.setPrs i ((O.prs i).put hj h0 h6))
theorem put_tail (R:Rel most σ k p l) (O:Ok p) (hi:i < 5) (hj:j < 4) {v:Int} (h0:0<=v) (h6:v < 6) {k₀:Nat} (hk:k₀<=k) (hk₀:24<=k₀) (hth:p.th < k₀) {RR XX:PostV}
  (h:∀ k' σ' m,k₀<=k'->Rel most σ' k' { p with prs:=set1 p.prs i (put (p.prs i) j v),mst:=m } l->Ok { p with prs:=set1 p.prs i (put (p.prs i) j v),mst:=m }->Q .none k' σ') :
  exW (L (n+4)) (sDrop 4 b77) [some (.cell 2),some (.cell (4+3*i)),some (kthing j),some (vthing v),some (kword j),none,none,none,none] k σ (fun uu k' σ'=>Q .none k' (restr k₀ σ')) RR XX:=by
 have hg:=dget_entry (O.prs i) hj
 have hp:=dput_entry (v:=v) (O.prs i) hj
 refine onI R.mem (w74 R hi fun k5 σ5 S5=>?_)
 have R5:=R.still S5
 refine eX1 (R5.ent i hi) fun ep5 he5=>?_
 have hb:=R5.body i hi
 refine onI hb (onD he5 (kkw ?_))
 cases hl:lk (p.prs i) j with
 | some w =>
  rw [hl] at hg
  exact isS hg (onI hb (onD he5 (kkw (okI hg (onI hb (onD he5 (kkw (fewM 4 (O.prs i).length rfl fun ep=>put_end R5 O hi hj h0 h6 (nA hk S5.1) hk₀ hth h hp))))))))
 | none =>
  rw [hl] at hg
  refine isN hg (w13 fun σ6 L6=>?_)
  have R6:Rel most σ6 k5 p l:=R5.mono L6 (nB _)
  refine eX1 (R6.ent i hi) fun ep6 he6=>?_
  exact onI (R6.body i hi) (onD he6 (kkw (fewM 4 (O.prs i).length rfl fun ep=>put_end R6 O hi hj h0 h6 (nA hk S5.1) hk₀ hth h hp)))
theorem w77 (R:Rel most σ k p l) (O:Ok p) (hi:i < 5) (hj:j < 4) {v:Int} (h0:0<=v) (h6:v < 6)
  (h:∀ k' σ' m,k<=k'->Rel most σ' k' { p with prs:=set1 p.prs i (put (p.prs i) j v),mst:=m } l->Ok { p with prs:=set1 p.prs i (put (p.prs i) j v),mst:=m }->Q .none k' σ') :
  L (n+5) (.fn 77) [.cell 2,.cell (4+3*i),kthing j,vthing v] k σ Q X:=by
 have hg:=dget_entry (O.prs i) hj
 have hp:=dput_entry (v:=v) (O.prs i) hj
 refine run_fn (fn:=fn77) rfl rfl rfl (w12 fun σ1 L1=>?_)
 have R1:Rel most σ1 k p l:=R.mono L1 (nB _)
 refine onI R1.mem (w75 R1 hi fun k2 σ2 S2=>?_)
 have R2:=R1.still S2
 refine onI R2.mem (w13 fun σ3 L3=>?_)
 have R3:Rel most σ3 k2 p l:=R2.mono L3 (nB _)
 refine w75 R3 hi fun k4 σ4 S4=>?_
 have R4:=R3.still S4
 refine eX1 (R4.ent i hi) fun ep4 he4=>?_
 refine onI (R4.body i hi) (onD he4 (kkw ?_))
 cases hl:lk (p.prs i) j with
 | some w =>
  rw [hl] at hg
  exact nS hg (nS hg (put_tail R4 O hi hj h0 h6 (nA S2.1 S4.1) R.low R.th2 h))
 | none =>
  rw [hl] at hg
  refine nN hg (onI (R4.body i hi) (onD he4 (fewM 4 (O.prs i).length rfl (onI (R4.body i hi) (cD (fun q=>?_) fun uu=>?_)))))
  ·rw [nY] at q
   have:=(O.prs i).length
   exact onI R4.mem (w76 R4 O hi (by exact fun e=>absurd (Int.le_trans q (Int.ofNat_le.mpr this)) (e▸by decide)) fun k5 σ5 hk5 R5=>put_tail R5 (O.grow i) hi hj h0 h6 (nA (nA S2.1 S4.1) hk5) R.low R.th2 h)
  ·exact put_tail R4 O hi hj h0 h6 (nA S2.1 S4.1) R.low R.th2 h
end
end B
namespace B
theorem rem_same {j:Nat}:∀ {l:Prs},lk l j=none->rem l j=l
 | [],_=>rfl
 | q :: r,h=>beq_e (a:=q.1) (b:=j) (C:=fun b=>cond b (some q.2) (lk r j)=none->cond b r (q :: rem r j)=q :: r) (fun uu h=>nomatch h) (fun uu h=>congrArg (q :: ·) (rem_same h)) h
theorem place_at {m a:Nat} (h:a < m):place m (a:Int)=some a:=by
 unfold place;rw [if_pos (by exact om39),if_pos (by exact om37 h)];rfl
theorem place_last {m:Nat} (h:0 < m):place m (-1)=some (m - 1):=by
 unfold place;rw [if_neg (by decide),if_pos (by exact Int.add_comm (-1) _▸Int.sub_nonneg_of_le (Int.ofNat_le.mpr h))];congr 1;exact (congrArg Int.toNat (Int.add_comm (-1) _)).trans (Int.toNat_sub _ 1)
theorem idxM {α:Type} {f:α->AV} {s:List α} {m:Nat} {x:α} {Q:AV->Prop} (h:s[m]?=some x) (hm:m<=1000000) (q:Q (f x)):idxW (s.map f) (.int (m:Int)) Q :=
 have hlt:m < s.length:=(List.getElem?_eq_some_iff.mp h).1
 smI ⟨Int.le_trans (by decide) (Int.natCast_nonneg m),Int.ofNat_le.mpr hm⟩ (okI (place_at ((nY f).symm▸hlt)) (okI (List.getElem?_map.trans (h▸rfl)) q))
theorem mapLast {α β:Type} {f:α->β} {s:List α} {x:α} (h:s.getLast?=some x):(s.map f).getLast?=some (f x):=List.getLast?_map.trans (h▸rfl)
theorem idxL {α:Type} {f:α->AV} {s:List α} {x:α} {Q:AV->Prop} (h:s.getLast?=some x) (q:Q (f x)):idxW (s.map f) (.int (-1)) Q :=
 have h2:(s.map f)[(s.map f).length - 1]?=some (f x):=List.getLast?_eq_getElem?.symm.trans (mapLast h)
 show okO (place (s.map f).length (-1)) fun j=>okO (s.map f)[j]? Q from okI (place_last (nF (nV _) (List.getElem?_eq_some_iff.mp h2).1)) (okI h2 q)
section
variable {most:Int} {n i j:Nat} {σ:Store} {k:Nat} {p:PS} {l:LS} {Q X:PostV}
theorem w16 (R:Rel most σ k p l) (hi:i < 5) (h:p.acc i=3->∀ σ',Low k σ σ'->Q .none k σ') (hx:¬ p.acc i=3->∀ σ',Low k σ σ'->X bInv k σ'):L (n+3) (.fn 16) [dthing i] k σ Q X:=by
 refine run_fn (fn:=fn16) rfl rfl rfl (w10 R hi fun σ' h'=>?_)
 by_cases q:p.acc i=3
 ·rw [decide_eq_true q];exact h q _ h'.restr
 ·rw [decide_eq_false q];exact hx q _ h'.restr
theorem w78 (R:Rel most σ k p l) (O:Ok p) (hi:i < 5) (hj:j < 4)
  (h:∀ k' σ',k<=k'->Rel most σ' k' { p with prs:=set1 p.prs i (rem (p.prs i) j) } l->Ok { p with prs:=set1 p.prs i (rem (p.prs i) j) }->Q .none k' σ') :
  L (n+4) (.fn 78) [.cell 2,.cell (4+3*i),kthing j] k σ Q X:=by
 have hg:=dget_entry (O.prs i) hj
 have hd:=ddel_entry (O.prs i) hj
 refine run_fn (fn:=fn78) rfl rfl rfl (w12 fun σ1 L1=>?_)
 have R1:Rel most σ1 k p l:=R.mono L1 (nB _)
 have hb1:=R1.body i hi
 refine eX1 (R1.ent i hi) fun ep1 he1=>?_
 refine onI hb1 (onD he1 (kkw ?_))
 cases hl:lk (p.prs i) j with
 | none =>
  rw [hl] at hg
  rw [rem_same hl,set1_self] at h
  exact isN hg (h _ _ (nB _) (R1.restr _ R.low R.th2) O)
 | some w =>
  rw [hl] at hg
  refine isS hg (onI R1.mem (w74 R1 hi fun k5 σ5 S5=>?_))
  have R5:=R1.still S5
  refine eX1 (R5.ent i hi) fun ep5 he5=>?_
  refine onI (R5.body i hi) (onD he5 (onD he5 (kkw (fewM 4 (O.prs i).length rfl (okI hg fun ep=>?_)))))
  have key:∀ {es:List (AV×AV)},es=(rem (p.prs i) j).map entry->Q .none k5 (restr k (upd σ5 (5+3*i) (.dict 3 es ep))):=fun e=>by
   subst e
   exact h _ _ S5.1 ((R5.setEnt hi _ ep).restr _ R.low R.th2) (O.setPrs i (O.prs i).rem)
  exact key hd
theorem w79 (R:Rel most σ k p l) (O:Ok p) (hi:i < 5) {a:Int} (h1:1<=a) (h3:a<=p.acc i)
  (h:∀ k' σ',k<=k'->Rel most σ' k' { p with acc:=set1 p.acc i a } l->Ok { p with acc:=set1 p.acc i a }->Q .none k' σ') :
  L (n+3) (.fn 79) [.cell 2,.cell (4+3*i),.int a] k σ Q X:=by
 refine run_fn (fn:=fn79) rfl rfl rfl (onI (R.body i hi) (dF (Int.not_lt.mpr h3) (onI R.mem (w74 R hi fun k5 σ5 S5=>?_))))
 have R5:=R.still S5
 refine onI (R5.body i hi) (h _ _ S5.1 ((R5.setAcc hi a ?_).restr _ R.low R.th2) (O.setAcc i h1 (Int.le_trans h3 (O.acc i).2)))
 show _=Cell.inst 2 [_,_,_,_,(4,.int (set1 p.acc i a i)),_]
 rw [set1_same];rfl
theorem w51 (R:Rel most σ k p l) (O:Ok p) (h:∀ k' σ',Still k σ k' σ'->Q (.int p.stk.length) k' σ'):L (n+1) (.fn 51) [.cell 22] k σ Q X :=
 run_fn (fn:=fn51) rfl rfl rfl (onI R.stack (onL R.thin (fewM 6 O.len.2 rfl (nY (as:=p.stk) dthing▸h _ _ (Still.refl k σ).restr))))
theorem w52 (R:Rel most σ k p l) {t:Nat} (ht:p.stk.getLast?=some t) (h:∀ k' σ',Still k σ k' σ'->Q (dthing t) k' σ'):L (n+1) (.fn 52) [.cell 22] k σ Q X :=
 run_fn (fn:=fn52) rfl rfl rfl (onI R.stack (onL R.thin (idxL ht (h _ _ (Still.refl k σ).restr))))
theorem w53 (R:Rel most σ k p l) (O:Ok p) (h:∀ k' σ',Still k σ k' σ'->Q (.lst (p.stk.map dthing)) k' σ'):L (n+1) (.fn 53) [.cell 22] k σ Q X :=
 run_fn (fn:=fn53) rfl rfl rfl (onI R.stack (onL R.thin (fewM 6 O.len.2 rfl (h _ _ (Still.refl k σ).restr))))
noncomputable def bOver:AV:=.bytes [100,105,99,116,115,116,97,99,107,111,118,101,114,102,108,111,119]
noncomputable def bUnder:AV:=.bytes [100,105,99,116,115,116,97,99,107,117,110,100,101,114,102,108,111,119]
theorem Rel.setThings' (R:Rel most σ k p l) {s:List Nat} {vs:List AV} (e:vs=s.map dthing):Rel most (upd σ p.th (.list vs)) k { p with stk:=s } l:=by subst e;exact R.setThings s
theorem w55 (R:Rel most σ k p l) (O:Ok p) (hm:most<=6) (hi:i < 5)
  (h:2<=p.acc i->(p.stk.length:Int) < most->∀ k' σ',k<=k'->Rel most σ' k' { p with stk:=p.stk ++ [i] } l->Ok { p with stk:=p.stk ++ [i] }->Q .none k' σ')
  (hx1:¬ 2<=p.acc i->∀ k' σ',k<=k'->Rel most σ' k' p l->X bInv k' σ')
  (hx2:2<=p.acc i->¬ (p.stk.length:Int) < most->∀ k' σ',k<=k'->Rel most σ' k' p l->X bOver k' σ') :
  L (n+4) (.fn 55) [.cell 22,dthing i] k σ Q X:=by
 have hl:=O.len
 refine run_fn (fn:=fn55) rfl rfl rfl (w15 R hi (fun ha σ1 l1=>?_) fun ha σ1 l1=>hx1 ha _ _ (nB _) ((R.mono l1 (nB _)).restr _ R.low R.th2))
 have R1:Rel most σ1 k p l:=R.mono l1 (nB _)
 refine onI R1.stack (onL R1.thin (fewM 6 hl.2 rfl (onI R1.stack (cD (fun q=>?_) fun q=>?_))))
 ·rw [nY] at q
  exact hx2 ha (Int.not_lt.mpr q) _ _ (nB _) (R1.restr _ R.low R.th2)
 ·rw [nY] at q
  have q:=Int.not_le.mp q
  refine onI R1.stack (onL R1.thin (onL R1.thin (fewM 6 hl.2 rfl ?_)))
  exact h ha q _ _ (nB _) ((R1.setThings' (List.map_append (f:=dthing) (l₁:=p.stk) (l₂:=[i])).symm).restr _ R.low R.th2)
   ⟨fun j hj=>(List.mem_append.mp hj).elim (O.stk j) fun hj=>List.mem_singleton.mp hj▸hi,(by rw [List.length_append];exact ⟨nA hl.1 (nP _ _),Int.ofNat_le.mp (Int.le_trans q hm)⟩),O.acc,O.prs,O.mst⟩
theorem Ok.last (O:Ok p):∃ t,p.stk.getLast?=some t/\t < 5:=by
 have hl:=O.len
 cases hq:p.stk.getLast? with
 | none=>rw [List.getLast?_eq_none_iff.mp hq] at hl;exact absurd hl.1 (by decide)
 | some t=>exact ⟨t,rfl,O.stk t (List.mem_of_getLast? hq)⟩
theorem w56 (R:Rel most σ k p l) (O:Ok p)
  (h:∀ t,p.stk.getLast?=some t->3 < p.stk.length->∀ k' σ',k<=k'->Rel most σ' k' { p with stk:=p.stk.dropLast } l->Ok { p with stk:=p.stk.dropLast }->Q (dthing t) k' σ')
  (hx:p.stk.length=3->∀ k' σ',k<=k'->Rel most σ' k' p l->X bUnder k' σ') :
  L (n+1) (.fn 56) [.cell 22] k σ Q X:=by
 have hl:=O.len
 refine run_fn (fn:=fn56) rfl rfl rfl (onI R.stack (onL R.thin (fewM 6 hl.2 rfl (cD (fun q=>?_) fun q=>?_))))
 ·rw [nY] at q
  exact hx (Nat.le_antisymm (Int.ofNat_le.mp q) hl.1) _ _ (nB _) (R.restr _ R.low R.th2)
 ·rw [nY] at q
  have q:3 < p.stk.length:=Int.ofNat_lt.mp (Int.not_le.mp q)
  refine eX1 O.last fun t qA2=>eD2 qA2 fun ht uu=>?_
  refine onI R.stack (onL R.thin (onL R.thin (fewM 6 hl.2 rfl (okI (mapLast ht) ?_))))
  exact h t ht q _ _ (nB _) ((R.setThings' (List.map_dropLast (f:=dthing) (l:=p.stk)).symm).restr _ R.low R.th2)
   ⟨fun j hj=>O.stk j (List.dropLast_subset _ hj),(by rw [List.length_dropLast];exact ⟨Nat.le_sub_one_of_lt q,nA (Nat.sub_le _ _) hl.2⟩),O.acc,O.prs,O.mst⟩
theorem Rel.newThings (R:Rel most σ k p l) {s:List Nat} {vs:List AV} (e:vs=s.map dthing):Rel most (upd (upd σ k (.list vs)) 22 (.inst 3 (stackF most { p with stk:=s,th:=k }))) (k+1) { p with stk:=s,th:=k } l:=by
 subst e
 have hk:∀ {j},j < 24->j≠k:=fun h=>nH (nD h R.low)
 have o:∀ {j c c'},j < 24->j≠22->upd (upd σ k c) 22 c' j=σ j:=fun h h'=>(upd_other _ _ h').trans (upd_other _ _ (hk h))
 have a:∀ {i},i < 5->4+3*i≠22/\5+3*i≠22:=by exact fun h=>⟨nH (om5 h rfl),nH (om5 h rfl)⟩
 exact ⟨Nat.le_succ_of_le R.low,(o (by decide) (by decide)).trans R.well,(o (by decide) (by decide)).trans R.lim,(o (by decide) (by decide)).trans R.mem,R.made.imp fun uu e=>(o (by decide) (by decide)).trans e,
  fun j hj=>(o (lt4 hj) (a hj).1).trans (R.body j hj),fun j hj=>(R.ent j hj).imp fun uu e=>(o (lt5 hj) (a hj).2).trans e,(o (by decide) (by decide)).trans R.accs,(o (by decide) (by decide)).trans R.prss,R.state.imp fun uu e=>(o (by decide) (by decide)).trans e,
  upd_same _ _ _,(upd_other _ _ (Ne.symm (hk (by decide)))).trans (upd_same _ _ _),nA (by decide) R.low,nQ _⟩
theorem w57 (R:Rel most σ k p l) (O:Ok p) (h:∀ k' σ' th',k<=k'->Rel most σ' k' { p with stk:=p.stk.take 3,th:=th' } l->Ok { p with stk:=p.stk.take 3,th:=th' }->Q .none k' σ') :
  L (n+1) (.fn 57) [.cell 22] k σ Q X:=by
 have hl:=O.len
 refine run_keep (fn:=fn57) rfl rfl rfl (onI R.stack (onL R.thin (fewM 6 hl.2 rfl (onI ((upd_other _ _ (nH (nD (by decide) R.low))).trans R.stack) ?_))))
 exact h _ _ k (Nat.le_succ _) (R.newThings (List.map_take (f:=dthing) (l:=p.stk) (i:=3)).symm) ⟨fun j hj=>O.stk j (List.mem_of_mem_take hj),(by rw [List.length_take];exact ⟨Nat.le_min.mpr ⟨nB _,hl.1⟩,nA (Nat.min_le_left _ _) (by decide)⟩),O.acc,O.prs,O.mst⟩
theorem w61 (R:Rel most σ k p l) (O:Ok p) {t:Nat} (ht:p.stk.getLast?=some t) (hj:j < 4) {v:Int} (h0:0<=v) (h6:v < 6)
  (h:p.acc t=3->∀ k' σ' m,k<=k'->Rel most σ' k' { p with prs:=set1 p.prs t (put (p.prs t) j v),mst:=m } l->Ok { p with prs:=set1 p.prs t (put (p.prs t) j v),mst:=m }->Q .none k' σ')
  (hx:¬ p.acc t=3->∀ k' σ',k<=k'->Rel most σ' k' p l->X bInv k' σ') :
  L (n+6) (.fn 61) [.cell 22,.cell 2,kthing j,vthing v] k σ Q X:=by
 have ht5:t < 5:=O.stk t (List.mem_of_getLast? ht)
 refine run_fn (fn:=fn61) rfl rfl rfl (onI R.stack (w52 R ht fun k1 σ1 S1=>?_))
 have R1:=R.still S1
 refine w16 R1 ht5 (fun ha σ2 l2=>?_) fun ha σ2 l2=>hx ha _ _ S1.1 ((R1.mono l2 (nB _)).restr _ R.low R.th2)
 have R2:Rel most σ2 k1 p l:=R1.mono l2 (nB _)
 refine onI R2.mem (onI R2.stack (w52 R2 ht fun k3 σ3 S3=>?_))
 have R3:=R2.still S3
 exact w77 R3 O ht5 hj h0 h6 fun k4 σ4 m hk4 R4 O4=>h ha _ _ m (nA S1.1 (nA S3.1 hk4)) (R4.restr _ R.low R.th2) O4
end
end B
namespace B
noncomputable def down:Nat->List AV
 | 0=>[]
 | m+1=>.int m :: down m
theorem range_down:∀ m:Nat,(List.range m).map (fun (i:Nat)=>AV.int (((m:Int) - 1)+(-1)*(i:Int)))=down m
 | 0=>rfl
 | m+1=>by
  rw [List.range_succ_eq_map,nD1,List.map_map]
  show _ :: _=AV.int m :: down m
  rw [<- range_down m]
  congr 1
  ·congr 1;omega
  ·refine List.map_congr_left fun i uu=>congrArg AV.int ?_
   show ((m+1:Nat):Int) - 1+-1*((i+1:Nat):Int)=_
   omega
theorem rangeL_down (m:Nat):rangeL ((m:Int) - 1) (-1) (-1)=down m:=by
 have e:(Builtin.Range.rangeSize ((m:Int) - 1) (-1) (-1)).toNat=m:=by
  unfold Builtin.Range.rangeSize
  rw [if_neg (by decide)]
  split
  ·show (((m:Int) - 1 - -1 - 1) / - -1+1).toNat=m
   rw [show - -(1:Int)=1 from rfl,Int.ediv_one]
   exact om122
  ·show 0=m
   omega
 unfold rangeL
 rw [e]
 exact range_down m
theorem rng_down {m:Nat} (h:m<=6):rngB ((m:Int) - 1) (-1) (-1)=true:=by
 unfold rngB
 rw [show Nat.blt ((m:Int) - 1).natAbs 1000000000=true from nJ (by omega)]
 rfl
theorem down_length:∀ m,(down m).length=m
 | 0=>rfl
 | m+1=>congrArg (·+1) (down_length m)
theorem few_down {m:Nat} (h:m<=6) {P:Prop} (q:P):few (rangeL ((m:Int) - 1) (-1) (-1)) P:=fewI (by rw [rangeL_down,down_length];exact om12 h rfl) q
theorem for_down {t:T} {body:Vars->Nat->Store->PostN->Prop} {N:PostN} (J:Nat->Vars->Nat->Store->Prop)
  (hs:∀ m vars k σ,J (m+1) vars k σ->∃ vars',asT t (.int m) vars=some vars'/\∀ N':PostN,(∀ vars k σ,J m vars k σ->N' vars k σ)->body vars' k σ N') (hN:∀ vars k σ,J 0 vars k σ->N vars k σ)
  {m:Nat} {vars:Vars} {k:Nat} {σ:Store} (h:J m vars k σ):forW t body (fun uu=>True) (rangeL ((m:Int) - 1) (-1) (-1)) vars k σ N:=by
 rw [rangeL_down]
 exact for_rule (fun rest vars k σ=>∃ m,rest=down m/\J m vars k σ) (fun uu uu uu uu uu=>trivial) (fun v rest vars k σ ⟨m,e,hJ⟩=>match m,e,hJ with
  | m+1,e,hJ=>by obtain ⟨rfl,rfl⟩:=List.cons.inj e;exact (hs m vars k σ hJ).imp fun vars' q=>⟨q.1,fun N' hN'=>q.2 N' fun vars k σ h=>hN' _ _ _ ⟨m,rfl,h⟩⟩) (fun vars k σ ⟨m,e,hJ⟩=>match m,e,hJ with
  | 0,_,hJ=>hN _ _ _ hJ) _ _ _ _ ⟨m,rfl,h⟩
inductive Fnd where
 | bad
 | hit (i:Nat)
 | miss
noncomputable def fnd (acc:Nat->Int) (prs:Nat->Prs) (j:Nat):List Nat->Fnd
 | []=>.miss
 | i :: r=>cond (decide (acc i < 2)) .bad (cond (lk (prs i) j).isSome (.hit i) (fnd acc prs j r))
theorem fnd_bad {acc:Nat->Int} {prs:Nat->Prs} {j i:Nat} {r:List Nat} (h:acc i < 2):fnd acc prs j (i :: r)=.bad:=by unfold fnd;rw [decide_eq_true h];rfl
theorem fnd_some {acc:Nat->Int} {prs:Nat->Prs} {j i:Nat} {r:List Nat} {v:Int} (h:¬ acc i < 2) (e:lk (prs i) j=some v):fnd acc prs j (i :: r)=.hit i:=by unfold fnd;rw [decide_eq_false h,e];rfl
theorem fnd_none {acc:Nat->Int} {prs:Nat->Prs} {j i:Nat} {r:List Nat} (h:¬ acc i < 2) (e:lk (prs i) j=none):fnd acc prs j (i :: r)=fnd acc prs j r:=by rw [fnd.eq_2,decide_eq_false h,e];rfl
noncomputable def hitOf:Fnd->Nat
 | .hit i=>i
 | _=>0
theorem hit_inj {a b:Nat} (h:Fnd.hit a=.hit b):a=b:=congrArg hitOf h
theorem fnd_hit {acc:Nat->Int} {prs:Nat->Prs} {j i:Nat}:∀ {s:List Nat},fnd acc prs j s=.hit i->i∈s/\(lk (prs i) j).isSome=true/\¬ acc i < 2
 | [],h=>nomatch h
 | a :: r,h=>(Decidable.em (acc a < 2)).elim (fun q=>nomatch (fnd_bad q).symm.trans h) fun q=>by
  cases e:lk (prs a) j with
  | none=>exact (fnd_hit ((fnd_none q e).symm.trans h)).imp (.tail _) id
  | some v=>exact hit_inj ((fnd_some q e).symm.trans h)▸⟨.head _,e▸rfl,q⟩
theorem take_rev {s:List Nat} {m t:Nat} (h:s[m]?=some t):(s.take (m+1)).reverse=t :: (s.take m).reverse:=by
 rw [List.take_add_one,h,List.reverse_append];rfl
noncomputable def bUndef:AV:=.bytes [117,110,100,101,102,105,110,101,100]
section
variable {most:Int} {n i j:Nat} {σ:Store} {k:Nat} {p:PS} {l:LS} {Q X:PostV}
theorem Ok.at (O:Ok p) {m:Nat} (h:m < p.stk.length):∃ t,p.stk[m]?=some t/\t < 5:=⟨_,nA1 h,O.stk _ (List.getElem_mem h)⟩
theorem smLen {m:Nat} (h:m<=6) {P:Prop} (q:P):smallC (m:Int) P:=smI (by exact om16 h rfl) q
theorem smLen1 {m:Nat} (h:m<=6) {P:Prop} (q:P):smallC ((m:Int) - 1) P:=smI (by omega) q
theorem w58 (R:Rel most σ k p l) (O:Ok p) (hj:j < 4)
  (hh:∀ i v,fnd p.acc p.prs j p.stk.reverse=.hit i->lk (p.prs i) j=some v->∀ k' σ',Still k σ k' σ'->Q (.tup [.cell (4+3*i),vthing v]) k' σ')
  (hm:fnd p.acc p.prs j p.stk.reverse=.miss->∀ k' σ',Still k σ k' σ'->Q .none k' σ')
  (hb:fnd p.acc p.prs j p.stk.reverse=.bad->∀ k' σ',Still k σ k' σ'->X bInv k' σ') :
  L (n+1) (.fn 58) [.cell 22,kword j] k σ Q X:=by
 have hl:=O.len
 refine run_fn (fn:=fn58) rfl rfl rfl (onI R.stack (onL R.thin (fewM 6 hl.2 rfl ?_)))
 rw [nY]
 refine smLen hl.2 (smLen1 hl.2 (cT (rng_down hl.2) (few_down hl.2 (for_down (fun m vars k' σ'=>∃ a b,m<=p.stk.length/\vars=[some (.cell 22),some (kword j),a,b,none,none,none,none]/\Still k σ k' σ'/\fnd p.acc p.prs j (p.stk.take m).reverse=fnd p.acc p.prs j p.stk.reverse) ?_ ?_
  ⟨none,none,nB _,rfl,Still.refl k σ,by rw [List.take_length]⟩))))
 ·intro m vars k' σ' ⟨a,b,hml,e,S,hf⟩
  subst e
  obtain ⟨t,ht,ht5⟩:=O.at hml
  rw [take_rev ht] at hf
  have R1:=R.still S
  obtain ⟨ep,he⟩:=R1.ent t ht5
  have hbo:=R1.body t ht5
  have hg:=dget_entry (O.prs t) hj
  refine ⟨_,rfl,fun N' hN'=>onI R1.stack (onL R1.thin (idxM ht (by exact om99 hml hl.2 rfl) (onI hbo (cD (fun q=>?_) fun q=>?_))))⟩
  ·exact hb (hf.symm.trans (fnd_bad q)) _ _ S.restr
  ·refine onI hbo (onD he (kkw ?_))
   cases hlk:lk (p.prs t) j with
   | none =>
    rw [hlk] at hg
    exact isN hg (hN' _ _ _ ⟨_,_,nO hml,rfl,S,(fnd_none q hlk).symm.trans hf⟩)
   | some v =>
    rw [hlk] at hg
    exact isS hg (onI hbo (onD he (kkw (okI hg (hh t v (hf.symm.trans (fnd_some q hlk)) hlk _ _ S.restr)))))
 ·intro vars k' σ' ⟨a,b,hml,e,S,hf⟩
  subst e
  exact hm hf.symm _ _ S.restr
theorem w59 (R:Rel most σ k p l) (O:Ok p) (hj:j < 4)
  (hh:∀ i v,fnd p.acc p.prs j p.stk.reverse=.hit i->lk (p.prs i) j=some v->∀ k' σ',Still k σ k' σ'->Q (vthing v) k' σ')
  (hm:fnd p.acc p.prs j p.stk.reverse=.miss->∀ k' σ',Still k σ k' σ'->X bUndef k' σ')
  (hb:fnd p.acc p.prs j p.stk.reverse=.bad->∀ k' σ',Still k σ k' σ'->X bInv k' σ') :
  L (n+4) (.fn 59) [.cell 22,kthing j] k σ Q X :=
 run_fn (fn:=fn59) rfl rfl rfl (onI R.stack (w12 fun σ1 L1=>w58 (R.mono L1 (nB _)) O hj
  (fun i v e1 e2 k' σ' S=>hh i v e1 e2 _ _ (Still.trans ⟨nB _,L1⟩ S).restr) (fun e1 k' σ' S=>hm e1 _ _ (Still.trans ⟨nB _,L1⟩ S).restr) fun e1 k' σ' S=>hb e1 _ _ (Still.trans ⟨nB _,L1⟩ S).restr))
theorem w60 (R:Rel most σ k p l) (O:Ok p) (hj:j < 4)
  (hh:∀ i,fnd p.acc p.prs j p.stk.reverse=.hit i->∀ k' σ',Still k σ k' σ'->Q (dthing i) k' σ')
  (hm:fnd p.acc p.prs j p.stk.reverse=.miss->∀ k' σ',Still k σ k' σ'->Q .none k' σ')
  (hb:fnd p.acc p.prs j p.stk.reverse=.bad->∀ k' σ',Still k σ k' σ'->X bInv k' σ') :
  L (n+4) (.fn 60) [.cell 22,kthing j] k σ Q X:=by
 have hl:=O.len
 refine run_fn (fn:=fn60) rfl rfl rfl (onI R.stack (w12 fun σ1 L1=>?_))
 have S0:Still k σ k σ1:=⟨nB _,L1⟩
 refine w58 (R.still S0) O hj (fun i v e1 e2 k1 τ1 S=>?_) (fun e1 k' σ' S=>hm e1 _ _ (S0.trans S).restr) fun e1 k' σ' S=>hb e1 _ _ (S0.trans S).restr
 have S2:=S0.trans S
 have R2:=R.still S2
 have him:=List.mem_reverse.mp (fnd_hit e1).1
 have hi5:=O.stk i him
 refine onI R2.stack (onL R2.thin (fewM 6 hl.2 rfl ?_))
 rw [nY]
 refine smLen hl.2 (smLen1 hl.2 (cT (rng_down hl.2) (few_down hl.2 (for_down (fun m vars k' σ'=>∃ a,m<=p.stk.length/\vars=[some (.cell 22),some (kthing j),some (.tup [.cell (4+3*i),vthing v]),a,none,none,none]/\Still k1 τ1 k' σ'/\i∈p.stk.take m) ?_ ?_
  ⟨none,nB _,rfl,Still.refl _ _,by rw [List.take_length];exact him⟩))))
 ·intro m vars k' σ' ⟨a,hml,e,S3,hin⟩
  subst e
  obtain ⟨t,ht,ht5⟩:=O.at hml
  have R3:=R2.still S3
  refine ⟨_,rfl,fun N' hN'=>onI R3.stack (onL R3.thin (idxM ht (by exact om99 hml hl.2 rfl) (onI (R3.body t ht5) (onI (R3.body i hi5) (cD (fun q=>?_) fun q=>?_)))))⟩
  ·have q:t=i:=by exact om36 q
   subst q
   exact onI R3.stack (onL R3.thin (idxM ht (by exact om99 hml hl.2 rfl) (hh t e1 _ _ (S2.trans S3).restr)))
  ·refine hN' _ _ _ ⟨_,nO hml,rfl,S3,?_⟩
   rw [List.take_add_one,ht] at hin
   exact (List.mem_append.mp hin).elim id fun h=>absurd (by rw [List.mem_singleton.mp h]) q
 ·intro vars k' σ' ⟨a,hml,e,S3,hin⟩
  exact nomatch hin
theorem st_tail (R:Rel most σ k p l) (O:Ok p) {t:Nat} (ht5:t < 5) (hj:j < 4) {v:Int} (h0:0<=v) (h6:v < 6) {k₀:Nat} (hk:k₀<=k) (hk₀:24<=k₀) (hth:p.th < k₀) {RR:PostV}
  (h:p.acc t=3->∀ k' σ' m,k₀<=k'->Rel most σ' k' { p with prs:=set1 p.prs t (put (p.prs t) j v),mst:=m } l->Ok { p with prs:=set1 p.prs t (put (p.prs t) j v),mst:=m }->Q .none k' σ')
  (hx:¬ p.acc t=3->∀ k' σ',k₀<=k'->Rel most σ' k' p l->X bInv k' σ') :
  exW (L (n+5)) (sDrop 2 b62) [some (.cell 22),some (.cell 2),some (kthing j),some (vthing v),some (dthing t),none] k σ (fun uu k' σ'=>Q .none k' (restr k₀ σ')) RR (fun v k' σ'=>X v k' (restr k₀ σ')):=by
 refine w16 R ht5 (fun ha σ2 l2=>?_) fun ha σ2 l2=>hx ha _ _ hk ((R.mono l2 (nB _)).restr _ hk₀ hth)
 have R2:Rel most σ2 k p l:=R.mono l2 (nB _)
 exact onI R2.mem (w77 R2 O ht5 hj h0 h6 fun k4 σ4 m hk4 R4 O4=>h ha _ _ m (nA hk hk4) (R4.restr _ hk₀ hth) O4)
theorem w62 (R:Rel most σ k p l) (O:Ok p) (hj:j < 4) {v:Int} (h0:0<=v) (h6:v < 6)
  (h:∀ t,(fnd p.acc p.prs j p.stk.reverse=.hit t∨(fnd p.acc p.prs j p.stk.reverse=.miss/\p.stk.getLast?=some t))->p.acc t=3 ->
   ∀ k' σ' m,k<=k'->Rel most σ' k' { p with prs:=set1 p.prs t (put (p.prs t) j v),mst:=m } l->Ok { p with prs:=set1 p.prs t (put (p.prs t) j v),mst:=m }->Q .none k' σ')
  (hx:∀ t,(fnd p.acc p.prs j p.stk.reverse=.hit t∨(fnd p.acc p.prs j p.stk.reverse=.miss/\p.stk.getLast?=some t))->¬ p.acc t=3->∀ k' σ',k<=k'->Rel most σ' k' p l->X bInv k' σ')
  (hb:fnd p.acc p.prs j p.stk.reverse=.bad->∀ k' σ',k<=k'->Rel most σ' k' p l->X bInv k' σ') :
  L (n+6) (.fn 62) [.cell 22,.cell 2,kthing j,vthing v] k σ Q X:=by
 refine run_fn (fn:=fn62) rfl rfl rfl (onI R.stack (w60 R O hj (fun i e1 k1 σ1 S1=>?_) (fun e1 k1 σ1 S1=>?_) fun e1 k' σ' S=>hb e1 _ _ S.1 ((R.still S).restr _ R.low R.th2)))
 ·exact st_tail (R.still S1) O (O.stk i (List.mem_reverse.mp (fnd_hit e1).1)) hj h0 h6 S1.1 R.low R.th2 (h i (.inl e1)) (hx i (.inl e1))
 ·obtain ⟨t,ht,ht5⟩:=O.last
  refine onI (R.still S1).stack (w52 (R.still S1) ht fun k2 σ2 S2=>?_)
  exact st_tail (R.still (S1.trans S2)) O ht5 hj h0 h6 (S1.trans S2).1 R.low R.th2 (h t (.inr ⟨e1,ht⟩)) (hx t (.inr ⟨e1,ht⟩))
end
end B
namespace B
theorem for_map {α:Type} {f:α->AV} {t:T} {body:Vars->Nat->Store->PostN->Prop} {inv:Store->Prop} {N:PostN} {s:List α} (J:List α->Vars->Nat->Store->Prop) (hi:∀ d vars k σ,J d vars k σ->inv σ)
  (hs:∀ d x r,s=d ++ x :: r->∀ vars k σ,J d vars k σ->∃ vars',asT t (f x) vars=some vars'/\∀ N':PostN,(∀ vars k σ,J (d ++ [x]) vars k σ->N' vars k σ)->body vars' k σ N')
  (hN:∀ vars k σ,J s vars k σ->N vars k σ) {vars:Vars} {k:Nat} {σ:Store} (h:J [] vars k σ):forW t body inv (s.map f) vars k σ N :=
 go s [] rfl h
where
 go:∀ r d,s=d ++ r->∀ {vars:Vars} {k:Nat} {σ:Store},J d vars k σ->forW t body inv (r.map f) vars k σ N
  | [],d,e,_,_,_,h=>⟨hi _ _ _ _ h,hN _ _ _ ((e.trans (List.append_nil d)).symm▸h)⟩
  | x :: r,d,e,_,_,_,h=>(hs d x r e _ _ _ h).elim fun vars' q=>⟨hi _ _ _ _ h,okI q.1 (q.2 _ fun vars k σ h'=>go r (d ++ [x]) (e.trans (List.append_assoc d [x] r).symm) h')⟩
theorem comp_map {α:Type} {g:α->AV} {elt:Vars->Nat->Store->PostV->Prop} {ok:Vars->Nat->Store->(Bool->Nat->Store->Prop)->Prop} {t:T} {inv:Store->Prop} {s:List α} (V:Vars->Prop) (J:Nat->Store->Prop) (f:α->Option AV) (hi:∀ k σ,J k σ->inv σ) {Q:List AV->Nat->Store->Prop}
  {vars:Vars} {k:Nat} {σ:Store} (hV:V vars) (hJ:J k σ)
  (hs:∀ x∈s,∀ vars,V vars->∃ vars',asT t (g x) vars=some vars'/\V vars'/\∀ k σ,J k σ->(∀ (Qb:Bool->Nat->Store->Prop),(∀ k' σ',J k' σ'->Qb (f x).isSome k' σ')->ok vars' k σ Qb)/\∀ a,f x=some a->∀ (Qe:PostV),(∀ k' σ',J k' σ'->Qe a k' σ')->elt vars' k σ Qe)
  (hQ:∀ k' σ',J k' σ'->Q (s.filterMap f) k' σ'):compW elt ok t inv (s.map g) [] vars k σ Q :=
 go s [] hV hJ hs hQ
where
 go:∀ (s:List α) (acc:List AV) {vars:Vars} {k:Nat} {σ:Store},V vars->J k σ ->
   (∀ x∈s,∀ vars,V vars->∃ vars',asT t (g x) vars=some vars'/\V vars'/\∀ k σ,J k σ->(∀ (Qb:Bool->Nat->Store->Prop),(∀ k' σ',J k' σ'->Qb (f x).isSome k' σ')->ok vars' k σ Qb)/\∀ a,f x=some a->∀ (Qe:PostV),(∀ k' σ',J k' σ'->Qe a k' σ')->elt vars' k σ Qe) ->
   (∀ k' σ',J k' σ'->Q (acc ++ s.filterMap f) k' σ')->compW elt ok t inv (s.map g) acc vars k σ Q
  | [],acc,_,k,σ,hV,hJ,_,hQ=>⟨hi k σ hJ,List.append_nil acc▸hQ k σ hJ⟩
  | x :: r,acc,_,k,σ,hV,hJ,hs,hQ=>(hs x (.head _) _ hV).elim fun vars' q=>⟨hi k σ hJ,okI q.1 ((q.2.2 k σ hJ).1 _ fun k' σ' hJ'=>by
   cases hf:f x with
   | none=>exact go r acc q.2.1 hJ' (fun y hy=>hs y (.tail _ hy)) (List.filterMap_cons_none hf▸hQ)
   | some a=>exact (q.2.2 k' σ' hJ').2 a hf _ fun k2 σ2 hJ2=>go r (acc ++ [a]) q.2.1 hJ2 (fun y hy=>hs y (.tail _ hy)) fun k3 σ3 h=>(List.append_assoc acc [a] _).symm▸(List.filterMap_cons_some hf▸hQ k3 σ3 h:Q (acc ++ a :: r.filterMap f) k3 σ3))⟩
theorem comp_mapA {α:Type} {g f:α->AV} {elt:Vars->Nat->Store->PostV->Prop} {ok:Vars->Nat->Store->(Bool->Nat->Store->Prop)->Prop} {t:T} {inv:Store->Prop} {s:List α} (V:Vars->Prop) (J:Nat->Store->Prop) (hi:∀ k σ,J k σ->inv σ) {Q:List AV->Nat->Store->Prop}
  {vars:Vars} {k:Nat} {σ:Store} (hV:V vars) (hJ:J k σ) (hok:∀ vars k σ Qb,Qb true k σ->ok vars k σ Qb)
  (hs:∀ x∈s,∀ vars,V vars->∃ vars',asT t (g x) vars=some vars'/\V vars'/\∀ k σ (Qe:PostV),J k σ->(∀ k' σ',J k' σ'->Qe (f x) k' σ')->elt vars' k σ Qe)
  (hQ:∀ k' σ',J k' σ'->Q (s.map f) k' σ'):compW elt ok t inv (s.map g) [] vars k σ Q :=
 comp_map V J (fun x=>some (f x)) hi hV hJ (fun x hx vars hV=>(hs x hx vars hV).imp fun vars' h=>⟨h.1,h.2.1,fun k σ hJ=>⟨fun Qb hq=>hok _ _ _ _ (hq k σ hJ),fun a ha Qe hq=>h.2.2 k σ Qe hJ (oJ ha▸hq)⟩⟩)
  fun k' σ' h=>(List.filterMap_eq_map (f:=f)▸hQ k' σ' h:Q (s.filterMap fun x=>some (f x)) k' σ')
theorem neNil {xs:List AV} {Q:Bool->Prop} (h:xs=[]->Q false) (h':xs≠[]->Q true):neW (.lst xs) (.lst []) Q:=match xs with
 | []=>h rfl
 | a :: r=>h' nofun
noncomputable def pick (i t:Nat):Option AV:=cond (decide (t=i)) (some (dthing t)) none
theorem pick_none {i:Nat} {s:List Nat}:s.filterMap (pick i)=[]↔i ∉ s:=List.filterMap_eq_nil_iff.trans
 (Iff.intro (fun h hi=>nomatch (congrArg (cond · (some (dthing i)) none) (decide_eq_true (rfl:i=i))).symm.trans (h i hi)) fun h t ht=>congrArg (cond · (some (dthing t)) none) (decide_eq_false fun (e:t=i)=>h (e▸ht)))
theorem cell_eq {i t:Nat} {C:Bool->Prop} (h:C (decide (t=i))):C (decide ((t:Int)+1=(i:Int)+1)):=(decide_eq_decide.mpr (by exact om32):decide ((t:Int)+1=(i:Int)+1)=decide (t=i))▸h
section
variable {most:Int} {n i j:Nat} {σ:Store} {k:Nat} {p:PS} {l:LS} {Q X:PostV}
theorem w54 (R:Rel most σ k p l) (O:Ok p) (hi:i < 5) (h:∀ k' σ',Still k σ k' σ'->Q (.bool (decide (i∈p.stk))) k' σ'):L (n+1) (.fn 54) [.cell 22,.cell (4+3*i)] k σ Q X:=by
 refine run_fn (fn:=fn54) rfl rfl rfl (onI R.stack (onL R.thin (fewM 6 O.len.2 rfl (comp_map (fun vars=>∃ x,vars=[none,x,some (.cell (4+3*i))]) (Still k σ) (pick i) (fun k' σ' hJ=>(hJ.2 _ R.th2).trans R.thin) ⟨none,rfl⟩ (Still.refl k σ) (fun t ht vars hV=>?_) fun k' σ' hJ=>?_))))
 ·refine eX1 hV fun x e=>?_
  subst e
  refine ⟨_,rfl,⟨_,rfl⟩,fun k' σ' hJ=>⟨fun Qb hq=>?_,fun a ha Qe hq=>?_⟩⟩
  ·have R1:=R.still hJ
   have hq:=hq _ _ hJ
   unfold pick at hq
   refine onI (R1.body t (O.stk t ht)) (onI (R1.body i hi) (cell_eq (C:=fun b=>Qb b k' σ') ?_))
   cases e:decide (t=i) with
   | true=>rw [e] at hq;exact hq
   | false=>rw [e] at hq;exact hq
  ·unfold pick at ha
   cases e:decide (t=i) with
   | true=>rw [e] at ha;exact oJ ha▸hq _ _ hJ
   | false=>rw [e] at ha;exact nomatch ha
 ·have hq:=h _ _ hJ.restr
  refine (show neW _ (.lst []) (fun r=>Q (.bool r) k' (restr k σ')) from neNil (fun e=>?_) fun e=>?_)
  ·rw [decide_eq_false (pick_none.mp e)] at hq;exact hq
  ·rw [decide_eq_true (Decidable.not_not.mp fun q=>e (pick_none.mpr q))] at hq;exact hq
noncomputable def nameB:Nat->Option (List UInt8)
 | 0=>some [97]
 | 1=>some [98]
 | 2=>some [99,99]
 | _=>none
noncomputable def namesOf (l:Prs):List (List UInt8):=l.filterMap fun q=>nameB q.1
theorem bytesAll_map:∀ l:List (List UInt8),bytesAll (l.map .bytes)=some l
 | []=>rfl
 | a :: r=>congrArg (Option.map (a :: ·)) (bytesAll_map r)
theorem sortI {bs:List (List UInt8)} {k:Nat} {σ:Store} {Q:PostV} (h:bs.length<=60) (q:Q (.lst ((sortB bs).map .bytes)) k σ):sortW (bs.map .bytes) k σ Q:=okI (bytesAll_map bs) (cT (nJ ((nY (as:=bs) AV.bytes).symm▸Nat.succ_le_succ (nA h (by decide)))) q)
theorem namesOf_le (l:Prs):(namesOf l).length<=l.length:=List.length_filterMap_le _ _
noncomputable def forB:S->S
 | .for _ _ b=>b
 | .cons s _=>forB s
 | s=>s
noncomputable def addName (bs:List (List UInt8)) (j:Nat):List (List UInt8):=(nameB j).casesOn bs fun b=>bs ++ [b]
theorem namesOf_add (d:Prs) (q:Nat×Int):namesOf (d ++ [q])=addName (namesOf d) q.1:=by
 show (d ++ [q]).filterMap _=_
 rw [List.filterMap_append]
 unfold addName
 cases e:nameB q.1 with
 | none=>exact (congrArg (namesOf d ++ ·) (List.filterMap_cons_none (f:=fun q:Nat×Int=>nameB q.1) e)).trans (List.append_nil _)
 | some b=>exact congrArg (namesOf d ++ ·) (List.filterMap_cons_some (f:=fun q:Nat×Int=>nameB q.1) e)
theorem app_name (bs:List (List UInt8)) (b:List UInt8):bs.map AV.bytes ++ [.bytes b]=(bs ++ [b]).map .bytes:=(List.map_append (f:=AV.bytes) (l₁:=bs) (l₂:=[b])).symm
theorem names_step {cw:AV->List AV->Nat->Store->PostV->PostV->Prop} {N:PostN} {R X:PostV} {c:Nat} {a v:AV} {bs:List (List UInt8)} (hk:σ c=some (.list (bs.map .bytes))) (hl:bs.length<=60) (h:∀ σ',(∀ i,i≠c->σ' i=σ i)->σ' c=some (.list ((addName bs j).map .bytes))->N [some a,some (.cell c),some (kthing j),some v,none] k σ') :
  exW cw (forB (sDrop 1 b19)) [some a,some (.cell c),some (kthing j),some v,none] k σ N R X:=match j,h with
 | 0,h=>onL hk (onL hk (fewM 60 hl rfl (h _ (fun i hi=>upd_other _ _ hi) (app_name bs [97]▸upd_same _ _ _))))
 | 1,h=>onL hk (onL hk (fewM 60 hl rfl (h _ (fun i hi=>upd_other _ _ hi) (app_name bs [98]▸upd_same _ _ _))))
 | 2,h=>onL hk (onL hk (fewM 60 hl rfl (h _ (fun i hi=>upd_other _ _ hi) (app_name bs [99,99]▸upd_same _ _ _))))
 | _+3,h=>h _ (fun uu uu=>rfl) hk
theorem Low.but {k₀:Nat} {σ₀ σ σ':Store} {c:Nat} (h:Low k₀ σ₀ σ) (hc:k₀<=c) (h':∀ i,i≠c->σ' i=σ i):Low k₀ σ₀ σ':=fun i hi=>(h' i (nH (nD hi hc))).trans (h i hi)
theorem left_le {α:Type} {s d r:List α} {m:Nat} (e:s=d ++ r) (h:s.length<=m):d.length<=m:=nA (Nat.le_of_lt_succ (by rw [e,List.length_append];exact om134)) h
theorem mid_mem {α:Type} {s d r:List α} {x:α} (e:s=d ++ x :: r):x∈s:=e▸List.mem_append_right _ (.head _)
theorem w19 (R:Rel most σ k p l) (O:Ok p) (hi:i < 5) (h:∀ k' σ',Still k σ k' σ'->Q (.lst ((sortB (namesOf (p.prs i))).map .bytes)) k' σ'):L (n+2) (.fn 19) [.cell (4+3*i)] k σ Q X:=by
 have hlen:=(O.prs i).length
 have R1:Rel most (upd σ k (.list [])) (k+1) p l:=R.fresh _
 refine run_fn (fn:=fn19) rfl rfl rfl (onI (R1.body i hi) (w49 R1 O hi fun k2 σ2 S2=>fewM 4 hlen rfl (for_map (fun d vars k' σ'=>∃ a b,vars=[some (.cell (4+3*i)),some (.cell k),a,b,none]/\σ' k=some (.list ((namesOf d).map .bytes))/\k+1<=k'/\Low k σ σ')
  (fun uu uu uu uu uu=>trivial) (fun d q r e vars k' σ' hJ=>?_) (fun vars k' σ' hJ=>?_) ⟨none,none,rfl,(S2.2 k (nQ k)).trans (upd_same _ _ _),S2.1,((Low.refl k σ).upd _ (nB _)).trans S2.2 (Nat.le_succ _)⟩)))
 ·refine eX2 hJ fun a b qA1=>eD4 qA1 fun e1 hk' hle low=>?_
  subst e1
  exact ⟨_,rfl,fun N' hN'=>names_step hk' (nA (namesOf_le d) (nA (left_le e hlen) (by decide))) fun σ3 h3 h4=>hN' _ _ _ ⟨_,_,rfl,namesOf_add d q▸h4,hle,low.but (nB _) h3⟩⟩
 ·refine eX2 hJ fun a b qA2=>eD4 qA2 fun e1 hk' hle low=>?_
  subst e1
  exact onL hk' (sortI (nA (namesOf_le _) (nA hlen (by decide))) (h _ _ ⟨nO hle,low.restr⟩))
end
end B
namespace B
theorem ndF {p:Prop} [Decidable p] {P Q:Prop} (h:¬ p) (q:P):cond (!decide p) P Q:=cT (congrArg Bool.not (decide_eq_false h)) q
theorem ndT {p:Prop} [Decidable p] {P Q:Prop} (h:p) (q:Q):cond (!decide p) P Q:=cF (congrArg Bool.not (decide_eq_true h)) q
theorem dput_length (a v:AV):∀ es:List (AV×AV),(dput es a v).length<=es.length+1
 | []=>nB _
 | e :: r=>by
  show (cond (keyEq e.1 a) ((e.1,v) :: r) (e :: dput r a v)).length<=_
  cases keyEq e.1 a with
  | true=>exact Nat.le_succ _
  | false=>exact Nat.succ_le_succ (dput_length a v r)
noncomputable def putAll (l:Prs) (r:Prs):Prs:=r.foldl (fun l q=>put l q.1 q.2) l
theorem set1_twice {α:Type} (f:Nat->α) (i:Nat) (a b:α):set1 (set1 f i a) i b=set1 f i b:=funext fun j=>by unfold set1;split <;> rfl
theorem put_next (f:Nat->Prs) (i:Nat) (d:Prs) (q:Nat×Int):set1 (set1 f i (putAll (f i) d)) i (put (set1 f i (putAll (f i) d) i) q.1 q.2)=set1 f i (putAll (f i) (d ++ [q])):=by
 rw [set1_twice,set1_same];unfold putAll;rw [List.foldl_append];rfl
section
variable {most:Int} {n i j t:Nat} {σ:Store} {k:Nat} {p:PS} {l:LS} {Q X:PostV}
theorem w20 (R:Rel most σ k p l) (O:Ok p) (hi:i < 5) {r:Prs} (F:Fine r)
  (h:∀ k' σ' m,k<=k'->Rel most σ' k' { p with prs:=set1 p.prs i (putAll (p.prs i) r),mst:=m } l->Ok { p with prs:=set1 p.prs i (putAll (p.prs i) r),mst:=m }->Q .none k' σ') :
  L (n+6) (.fn 20) [.cell 2,.cell (4+3*i),.lst (r.map rowV)] k σ Q X:=by
 have hlen:=(O.prs i).length
 have rlen:=F.length
 refine run_fn (fn:=fn20) rfl rfl rfl fun ep0=>fewM 4 rlen rfl (for_map (fun d vars k' σ'=>∃ a b c es ep,vars=[some (.cell 2),some (.cell (4+3*i)),some (.lst (r.map rowV)),some (.cell k),a,b,c,none,none,none,none,none]/\σ' k=some (.dict 3 es ep)/\es.length<=d.length/\k+1<=k'/\Low k σ σ')
  (fun uu uu uu uu uu=>trivial) (fun d q r' e vars k' σ' hJ=>?_) (fun vars k' σ' hJ=>?_) ⟨none,none,none,[],ep0,rfl,upd_same _ _ _,nB _,nB _,(Low.refl k σ).upd _ (nB _)⟩)
 ·obtain ⟨a,b,c,es,ep,e1,hk',hes,hle,low⟩:=hJ
  subst e1
  have hq:=(F.keys q (mid_mem e)).1
  have hd:d.length<=4:=left_le e rlen
  refine ⟨_,rfl,fun N' hN'=>w12 fun σ2 L2=>?_⟩
  have low2:Low k σ σ2:=low.trans L2 (nO hle)
  have hk2:=(L2 k hle).trans hk'
  have R2:Rel most σ2 k' p l:=R.mono low2 (nO hle)
  have hb2:=R2.body i hi
  obtain ⟨ep2,he2⟩:=R2.ent i hi
  have hg:=dget_entry (O.prs i) hq
  have le':d.length+1<=(d ++ [q]).length:=List.length_append (as:=d) (bs:=[q])▸nB _
  refine onI hb2 (onD he2 (kkw ?_))
  cases hlk:lk (p.prs i) q.1 with
  | some w =>
   rw [hlk] at hg
   exact nS hg (onI hb2 (hN' _ _ _ ⟨_,_,_,es,ep,rfl,hk2,nA hes (nO le'),hle,low2⟩))
  | none =>
   rw [hlk] at hg
   exact nN hg (onD hk2 (kkw (fewI (nF (nA hes hd) (by decide)) fun ep3=>onI ((upd_other _ _ (nH (nD (lt4 hi) R.low))).trans hb2) (hN' _ _ _ ⟨_,_,_,_,ep3,rfl,upd_same _ _ _,nA (dput_length _ _ _) (nA (Nat.add_le_add_right hes 1) le'),hle,low2.upd _ (nB _)⟩))))
 ·obtain ⟨a,b,c,es,ep,e1,hk',hes,hle,low⟩:=hJ
  subst e1
  have R2:Rel most σ' k' p l:=R.mono low (nO hle)
  have hb2:=R2.body i hi
  obtain ⟨ep2,he2⟩:=R2.ent i hi
  refine onI hb2 (onD he2 (fewM 4 hlen rfl (onD hk' (fewI (by exact om61 hes rlen _ rfl) ?_))))
  rw [nY]
  refine smI (by exact om16 hlen rfl) (smI (by exact om62 hes rlen rfl) (onI hb2 (onI R2.mem (onI R2.lim (dF (by omega) (fewM 4 rlen rfl (for_map (fun d vars k3 σ3=>∃ a b c m,vars=[some (.cell 2),some (.cell (4+3*i)),some (.lst (r.map rowV)),some (.cell k),a,b,c,none,none,none,none,none]/\k<=k3 /\
    Rel most σ3 k3 { p with prs:=set1 p.prs i (putAll (p.prs i) d),mst:=m } l/\Ok { p with prs:=set1 p.prs i (putAll (p.prs i) d),mst:=m })
   (fun uu uu uu uu uu=>trivial) (fun d q r' e vars k3 σ3 hJ=>?_) (fun vars k3 σ3 hJ=>?_) ⟨a,b,c,p.mst,rfl,nO hle,?_,?_⟩)))))))
  ·obtain ⟨a,b,c,m,e1,hle3,R3,O3⟩:=hJ
   subst e1
   have hq:=F.keys q (mid_mem e)
   refine ⟨_,rfl,fun N' hN'=>onI R3.mem (w77 R3 O3 hi hq.1 hq.2.1 hq.2.2 fun k4 σ4 m4 hk4 R4 O4=>?_)⟩
   have e5:=put_next p.prs i d q
   dsimp only at R4 O4
   rw [e5] at R4 O4
   exact hN' _ _ _ ⟨_,_,_,m4,rfl,nA hle3 hk4,R4,O4⟩
  ·obtain ⟨a,b,c,m,e1,hle3,R3,O3⟩:=hJ
   exact h _ _ m hle3 (R3.restr _ R.low R.th2) O3
  ·rw [show putAll (p.prs i) []=p.prs i from rfl,set1_self];exact R2
  ·rw [show putAll (p.prs i) []=p.prs i from rfl,set1_self];exact O
theorem w21 (R:Rel most σ k p l) (O:Ok p) (hi:i < 5) (ht:t < 5) (hne:i≠t)
  (h:2<=p.acc i->p.acc t=3->∀ k' σ' m,k<=k'->Rel most σ' k' { p with prs:=set1 p.prs t (putAll (p.prs t) (p.prs i)),mst:=m } l->Ok { p with prs:=set1 p.prs t (putAll (p.prs t) (p.prs i)),mst:=m }->Q (dthing t) k' σ')
  (hx:¬ (2<=p.acc i/\p.acc t=3)->∀ k' σ',k<=k'->Rel most σ' k' p l->X bInv k' σ') :
  L (n+7) (.fn 21) [.cell 2,dthing i,dthing t] k σ Q X:=by
 refine run_fn (fn:=fn21) rfl rfl rfl (w15 R hi (fun h1 σ1 l1=>?_) fun h1 σ1 l1=>hx (fun q=>h1 q.1) _ _ (nB _) ((R.mono l1 (nB _)).restr _ R.low R.th2))
 have R1:Rel most σ1 k p l:=R.mono l1 (nB _)
 refine w16 R1 ht (fun h2 σ2 l2=>?_) fun h2 σ2 l2=>hx (fun q=>h2 q.2) _ _ (nB _) ((R1.mono l2 (nB _)).restr _ R.low R.th2)
 have R2:Rel most σ2 k p l:=R1.mono l2 (nB _)
 refine onI (R2.body i hi) (onI (R2.body t ht) ?_)
 refine ndF (by exact om33 hne) (w18 R2 O hi fun k3 σ3 S3=>?_)
 exact w20 (R2.still S3) O ht (O.prs i) fun k4 σ4 m hk4 R4 O4=>h h1 h2 _ _ m (nA S3.1 hk4) (R4.restr _ R.low R.th2) O4
theorem w25 (R:Rel most σ k p l) (O:Ok p) (hi:i < 5) (h:2<=p.acc i->∀ k' σ',Still k σ k' σ'->Q (.lst ((p.prs i).map rowV)) k' σ') (hx:¬ 2<=p.acc i->∀ k' σ',Still k σ k' σ'->X bInv k' σ') :
  L (n+4) (.fn 25) [dthing i] k σ Q X :=
 run_fn (fn:=fn25) rfl rfl rfl (w15 R hi (fun h1 σ1 l1=>w18 (R.mono l1 (nB _)) O hi fun k3 σ3 S3=>h h1 _ _ (Still.trans ⟨nB _,l1⟩ S3).restr) fun h1 σ1 l1=>hx h1 _ _ ⟨nB _,l1.restr⟩)
theorem mil_eq {v w:Int} {C:Bool->Prop} (h:C (decide (v=w))):C (decide (v*1000000=w*1000000)):=(decide_eq_decide.mpr (by exact ⟨Int.eq_of_mul_eq_mul_right (by decide),fun e=>e▸rfl⟩):decide (v*1000000=w*1000000)=decide (v=w))▸h
theorem orRet {b:Bool} {C:Bool->Prop} (h:C b):C (b&&true):=(Bool.and_true b).symm▸h
theorem w22 {v w:Int} (hv:-1000<=v/\v<=1000) (hw:-1000<=w/\w<=1000) (h:∀ k' σ',Still k σ k' σ'->Q (.bool (decide (v=w))) k' σ'):L (n+3) (.fn 22) [vthing v,vthing w] k σ Q X:=by
 refine run_fn (fn:=fn22) rfl rfl rfl (w12i hv fun σ1 l1=>w12i hw fun σ2 l2=>?_)
 have q:=h _ _ ⟨nB _,(l1.trans l2 (nB _)).restr⟩
 exact orRet (C:=fun b=>Q (.bool b) k (restr k σ2)) (mil_eq (C:=fun b=>Q (.bool b) k (restr k σ2)) q)
theorem w24 (h:∀ k' σ',Still k σ k' σ'->Q (.lst ([[115,121,115,116,101,109,100,105,99,116],[103,108,111,98,97,108,100,105,99,116],[115,116,97,116,117,115,100,105,99,116],[101,114,114,111,114,100,105,99,116],[36,101,114,114,111,114]].map .bytes)) k' σ'):L (n+1) (.fn 24) [] k σ Q X :=
 run_fn (fn:=fn24) rfl rfl rfl (h _ _ (Still.refl k σ).restr)
noncomputable def countAll (prs:Nat->Prs) (s:List Nat):Int:=(s.map fun i=>((prs i).length:Int)).sum
theorem countAll_add (prs:Nat->Prs) (d:List Nat) (t:Nat):countAll prs (d ++ [t])=countAll prs d+((prs t).length:Int):=by
 unfold countAll;rw [List.map_append,List.sum_append];exact congrArg (_+·) (Int.add_zero _)
theorem countAll_le (O:Ok p):∀ s:List Nat,0<=countAll p.prs s/\countAll p.prs s<=4*s.length
 | []=>⟨Int.le_refl 0,Int.le_refl 0⟩
 | i :: r=>by
  have h:=countAll_le O r
  have:=(O.prs i).length
  show 0<=((p.prs i).length:Int)+countAll p.prs r/\((p.prs i).length:Int)+countAll p.prs r<=4*(r.length+1:Nat)
  omega
theorem w26 (R:Rel most σ k p l) (O:Ok p) {c:Nat} {fm:List (Nat×AV)} (hc4:c < k) (hm:σ c=some (.inst 4 fm)) (h24:fget fm 24=some (.cell 22)) (h:∀ k' σ',Still k σ k' σ'->Q (.tup [.int p.stk.length,.int (countAll p.prs p.stk)]) k' σ'):L (n+2) (.fn 26) [.cell c] k σ Q X:=by
 have hl:=O.len
 refine run_fn (fn:=fn26) rfl rfl rfl (onI hm (okI h24 (onI R.stack (w53 R O fun k1 σ1 S1=>fewM 6 hl.2 rfl (for_map (fun d vars k' σ'=>∃ a,vars=[some (.cell c),some (.int (countAll p.prs d)),a,none]/\Still k σ k' σ')
  (fun uu uu uu uu uu=>trivial) (fun d t r e vars k' σ' hJ=>?_) (fun vars k' σ' hJ=>?_) ⟨none,rfl,S1⟩)))))
 ·obtain ⟨a,e1,S⟩:=hJ
  subst e1
  have hb:=countAll_le O d
  have hd:d.length<=6:=left_le e hl.2
  have tl:=(O.prs t).length
  exact ⟨_,rfl,fun N' hN'=>w14 (R.still S) O (O.stk t (mid_mem e)) fun k3 σ3 S3=>smI (by exact om159 hb hd rfl) (smI (by exact om16 tl rfl) (hN' _ _ _ ⟨some (dthing t),countAll_add p.prs d t▸rfl,S.trans S3⟩))⟩
 ·obtain ⟨a,e1,S⟩:=hJ
  subst e1
  exact onI ((S.2 c hc4).trans hm) (okI h24 (onI (R.still S).stack (w51 (R.still S) O fun k3 σ3 S3=>h _ _ (S.trans S3).restr)))
noncomputable def like (a b:Prs):Bool:=decide (a.length=b.length)&&a.all fun q=>decide (lk b q.1=some q.2)
theorem like_no {a b:Prs} {q:Nat×Int} (h:q∈a) (hne:lk b q.1≠some q.2):like a b=false :=
 Bool.and_eq_false_iff.mpr (.inr (List.all_eq_false.mpr ⟨q,h,fun e=>hne (of_decide_eq_true e)⟩))
theorem w23 (R:Rel most σ k p l) (O:Ok p) (hi:i < 5) (ht:t < 5) (h:∀ k' σ',Still k σ k' σ'->Q (.bool (like (p.prs i) (p.prs t))) k' σ'):L (n+4) (.fn 23) [.cell (4+3*i),.cell (4+3*t)] k σ Q X:=by
 have l1:=(O.prs i).length
 have l2:=(O.prs t).length
 obtain ⟨ep1,he1⟩:=R.ent i hi
 obtain ⟨ep2,he2⟩:=R.ent t ht
 refine run_fn (fn:=fn23) rfl rfl rfl (onI (R.body i hi) (onD he1 (fewM 4 l1 rfl (onI (R.body t ht) (onD he2 (fewM 4 l2 rfl ?_))))))
 rw [nY,nY]
 by_cases hlen:(p.prs i).length=(p.prs t).length
 ·refine cF (congrArg Bool.not (decide_eq_true (congrArg Int.ofNat hlen):decide (((p.prs i).length:Int)=((p.prs t).length:Int))=true)) (onI (R.body i hi) (onD he1 ?_))
  rw [keysOf_entry]
  refine fewM 4 l1 rfl (for_map (fun d vars k' σ'=>∃ a,vars=[some (.cell (4+3*i)),some (.cell (4+3*t)),a,none,none]/\Still k σ k' σ'/\∀ q∈d,lk (p.prs t) q.1=some q.2)
   (fun d vars k' σ' hJ=>?_) (fun d q r e vars k' σ' hJ=>?_) (fun vars k' σ' hJ=>?_) ⟨none,rfl,Still.refl k σ,nofun⟩)
  ·obtain ⟨a,e1,S,_⟩:=hJ
   exact (S.2 _ (nD (lt5 hi) R.low)).trans he1
  ·obtain ⟨a,e1,S,hd⟩:=hJ
   subst e1
   have hmem:=mid_mem e
   have hq:=(O.prs i).keys q hmem
   have R1:=R.still S
   obtain ⟨ep3,he3⟩:=R1.ent i hi
   obtain ⟨ep4,he4⟩:=R1.ent t ht
   have hg1:=dget_entry (O.prs i) hq.1
   have hg2:=dget_entry (O.prs t) hq.1
   rw [lk_some (O.prs i) hmem] at hg1
   refine ⟨_,rfl,fun N' hN'=>onI (R1.body t ht) (onD he4 (kkw ?_))⟩
   cases hlk:lk (p.prs t) q.1 with
   | none =>
    rw [hlk] at hg2
    have q:=h _ _ S.restr
    rw [like_no hmem (hlk▸nofun)] at q
    exact nN hg2 q
   | some w =>
    rw [hlk] at hg2
    have hw:=(O.prs t).keys _ (lk_mem hlk)
    refine nS hg2 (onI (R1.body i hi) (onD he3 (kkw (okI hg1 (onI (R1.body t ht) (onD he4 (kkw (okI hg2 (w22 (by exact om19 hq.2 rfl) ⟨Int.le_trans (by decide) hw.2.1,Int.le_of_lt (Int.lt_trans hw.2.2 (by decide))⟩ fun k5 σ5 S5=>?_)))))))))
    by_cases hvw:q.2=w
    ·refine cF (congrArg Bool.not (decide_eq_true hvw)) (hN' _ _ _ ⟨_,rfl,S.trans S5,fun x hx=>(List.mem_append.mp hx).elim (hd x) fun hx=>List.mem_singleton.mp hx▸hvw▸hlk⟩)
    ·have q:=h _ _ (S.trans S5).restr
     rw [like_no hmem (hlk▸fun e=>hvw (oJ e).symm)] at q
     exact cT (congrArg Bool.not (decide_eq_false hvw)) q
  ·obtain ⟨a,e1,S,hd⟩:=hJ
   subst e1
   have q:=h _ _ S.restr
   rw [show like (p.prs i) (p.prs t)=true from Bool.and_eq_true_iff.mpr ⟨decide_eq_true hlen,nC1.mpr fun q hq=>decide_eq_true (hd q hq)⟩] at q
   exact q
 ·have q:=h _ _ (Still.refl k σ).restr
  rw [show like (p.prs i) (p.prs t)=false from congrArg (·&&_) (decide_eq_false hlen)] at q
  exact cT (congrArg Bool.not (decide_eq_false (fun e=>hlen (Int.ofNat.inj e)):decide (((p.prs i).length:Int)=((p.prs t).length:Int))=false)) q
end
end B
namespace B
theorem dec_e {p:Prop} [Decidable p] {C:Bool->Prop} (f:p->C true) (g:¬ p->C false):C (decide p):=(Decidable.em p).elim (fun h=>(decide_eq_true h).symm▸f h) fun h=>(decide_eq_false h).symm▸g h
section
variable {α β:Type} [DecidableEq α]
noncomputable def aget:List (α×β)->α->Option β
 | [],_=>none
 | q :: r,a=>cond (decide (q.1=a)) (some q.2) (aget r a)
noncomputable def aput:List (α×β)->α->β->List (α×β)
 | [],a,v=>[(a,v)]
 | q :: r,a,v=>cond (decide (q.1=a)) ((q.1,v) :: r) (q :: aput r a v)
noncomputable def ins:List α->α->List α
 | [],a=>[a]
 | x :: r,a=>cond (decide (x=a)) (x :: r) (x :: ins r a)
noncomputable def insAll (l r:List α):List α:=r.foldl ins l
noncomputable def rowE (K:α->AV) (V:β->AV) (q:α×β):AV×AV:=(K q.1,V q.2)
theorem dget_a {K:α->AV} {V:β->AV} (hK:∀ a b,keyEq (K a) (K b)=decide (a=b)) {a:α}:∀ l:List (α×β),dget (l.map (rowE K V)) (K a)=(aget l a).map V
 | []=>rfl
 | q :: r=>by
  show cond (keyEq (K q.1) (K a)) (some (V q.2)) (dget (r.map (rowE K V)) (K a))=(cond (decide (q.1=a)) (some q.2) (aget r a)).map V
  rw [hK]
  exact dec_e (C:=fun b=>cond b _ _=(cond b _ _:Option β).map V) (fun uu=>rfl) fun uu=>dget_a hK r
theorem dput_a {K:α->AV} {V:β->AV} (hK:∀ a b,keyEq (K a) (K b)=decide (a=b)) {a:α} {v:β}:∀ l:List (α×β),dput (l.map (rowE K V)) (K a) (V v)=(aput l a v).map (rowE K V)
 | []=>rfl
 | q :: r=>by
  show cond (keyEq (K q.1) (K a)) ((K q.1,V v) :: r.map (rowE K V)) (rowE K V q :: dput (r.map (rowE K V)) (K a) (V v))=(cond (decide (q.1=a)) ((q.1,v) :: r) (q :: aput r a v)).map (rowE K V)
  rw [hK]
  exact dec_e (C:=fun b=>cond b _ _=(cond b _ _:List (α×β)).map (rowE K V)) (fun uu=>rfl) fun uu=>congrArg (rowE K V q :: ·) (dput_a hK r)
theorem aput_keys {a:α} {v:β}:∀ l:List (α×β),(aput l a v).map (·.1)=ins (l.map (·.1)) a
 | []=>rfl
 | q :: r=>dec_e (p:=q.1=a) (C:=fun b=>(cond b ((q.1,v) :: r) (q :: aput r a v)).map (·.1)=cond b (q.1 :: r.map (·.1)) (q.1 :: ins (r.map (·.1)) a)) (fun uu=>rfl) fun uu=>congrArg (q.1 :: ·) (aput_keys r)
theorem aget_put {a c:α} {v:β}:∀ l:List (α×β),aget (aput l a v) c=cond (decide (a=c)) (some v) (aget l c)
 | []=>rfl
 | q :: r=>dec_e (p:=q.1=a) (C:=fun b=>aget (cond b ((q.1,v) :: r) (q :: aput r a v)) c=cond (decide (a=c)) (some v) (cond (decide (q.1=c)) (some q.2) (aget r c)))
   (fun e=>by subst e;exact dec_e (p:=q.1=c) (C:=fun b=>cond b (some v) (aget r c)=cond b (some v) (cond b (some q.2) (aget r c))) (fun uu=>rfl) fun uu=>rfl)
   fun n=>(congrArg (cond (decide (q.1=c)) (some q.2)) (aget_put r)).trans (dec_e (p:=q.1=c) (C:=fun b=>cond b (some q.2) (cond (decide (a=c)) (some v) (aget r c))=cond (decide (a=c)) (some v) (cond b (some q.2) (aget r c)))
    (fun e=>by subst e;rw [decide_eq_false fun e:a=q.1=>n e.symm];rfl) fun uu=>rfl)
theorem aget_some {a:α}:∀ l:List (α×β),(aget l a).isSome=decide (a∈l.map (·.1))
 | []=>rfl
 | q :: r=>dec_e (p:=q.1=a) (C:=fun b=>(cond b (some q.2) (aget r a)).isSome=decide (a∈q.1 :: r.map (·.1))) (fun e=>(decide_eq_true (e▸.head _)).symm)
   fun n=>(aget_some r).trans (decide_eq_decide.mpr ⟨.tail _,fun h=>(nZ.mp h).elim (fun e=>absurd e.symm n) id⟩)
theorem ins_mem {a c:α}:∀ l:List α,c∈ins l a↔c=a∨c∈l
 | []=>nZ
 | x :: r=>dec_e (p:=x=a) (C:=fun b=>c∈cond b (x :: r) (x :: ins r a)↔c=a∨c∈x :: r) (fun e=>Iff.intro .inr fun h=>h.elim (fun h=>nZ.mpr (.inl (h.trans e.symm))) id)
   fun uu=>nZ.trans ((or_congr .rfl (ins_mem r)).trans (or_left_comm.trans (or_congr .rfl nZ.symm)))
theorem ins_nodup {a:α}:∀ {l:List α},l.Nodup->(ins l a).Nodup
 | [],_=>List.pairwise_singleton _ _
 | x :: r,h=>dec_e (p:=x=a) (C:=fun b=>(cond b (x :: r) (x :: ins r a)).Nodup) (fun uu=>h)
   fun n=>nB1.mpr ⟨fun q=>((ins_mem r).mp q).elim n (nB1.mp h).1,ins_nodup (nB1.mp h).2⟩
theorem ins_length {a:α}:∀ l:List α,(ins l a).length<=l.length+1
 | []=>nB _
 | x :: r=>dec_e (p:=x=a) (C:=fun b=>(cond b (x :: r) (x :: ins r a)).length<=r.length+1+1) (fun uu=>Nat.le_succ _) fun uu=>Nat.succ_le_succ (ins_length r)
theorem ins_old {a:α} {l:List α} (h:a∈l):ins l a=l:=match l,h with
 | x :: r,h=>dec_e (p:=x=a) (C:=fun b=>cond b (x :: r) (x :: ins r a)=x :: r) (fun uu=>rfl) fun n=>congrArg (x :: ·) (ins_old ((nZ.mp h).elim (fun e=>absurd e.symm n) id))
theorem insAll_mem {c:α}:∀ r l:List α,c∈insAll l r↔c∈r∨c∈l
 | [],l=>⟨.inr,fun h=>h.elim nofun id⟩
 | b :: r,l=>(insAll_mem r (ins l b)).trans ((or_congr .rfl (ins_mem l)).trans (or_left_comm.trans (or_assoc.symm.trans (or_congr nZ.symm .rfl))))
theorem insAll_nodup:∀ (r:List α) {l:List α},l.Nodup->(insAll l r).Nodup
 | [],_,h=>h
 | b :: r,l,h=>insAll_nodup r (l:=ins l b) (ins_nodup h)
theorem insAll_length:∀ r l:List α,(insAll l r).length<=l.length+r.length
 | [],l=>nB _
 | b :: r,l=>nA (insAll_length r (ins l b)) (nA (Nat.add_le_add_right (ins_length l) _) (by rw [List.length_cons];exact nG (Nat.add_right_comm l.length 1 r.length)))
theorem insAll_snoc (r l:List α) (b:α):insAll l (r ++ [b])=ins (insAll l r) b:=List.foldl_append
noncomputable def dist (s:List α):List α:=insAll [] s
theorem dist_mem {c:α} (s:List α):c∈dist s↔c∈s:=(insAll_mem s []).trans ⟨fun h=>h.elim id nofun,.inl⟩
theorem dist_nodup (s:List α):(dist s).Nodup:=insAll_nodup s List.nodup_nil
theorem dist_length (s:List α):(dist s).length<=s.length:=nA (insAll_length s []) (nG (Nat.zero_add _))
noncomputable def cnt (s:List α) (a:α):Nat:=s.count a
theorem cnt_le {s:List α} {a:α}:cnt s a<=s.length:=List.count_le_length
theorem cnt_perm {s s':List α} (h:s.Perm s') (a:α):cnt s a=cnt s' a:=h.count_eq a
noncomputable def bump (l:List (α×Int)) (a:α):List (α×Int):=aput l a ((aget l a).getD 0+1)
noncomputable def cnts (s:List α):List (α×Int):=s.foldl bump []
theorem cnts_snoc (s:List α) (a:α):cnts (s ++ [a])=bump (cnts s) a:=List.foldl_append
theorem cnts_keys (s:List α):(cnts s).map (·.1)=dist s:=go s []
where
 go:∀ (s:List α) (l:List (α×Int)),(s.foldl bump l).map (·.1)=insAll (l.map (·.1)) s
  | [],_=>rfl
  | a :: s,l=>(go s (bump l a)).trans (congrArg (insAll · s) (aput_keys l))
theorem cnts_get (s:List α) (a:α):(aget (cnts s) a).getD 0=(cnt s a:Int):=(go s []).trans (Int.zero_add _)
where
 go:∀ (s:List α) (l:List (α×Int)),(aget (s.foldl bump l) a).getD 0=(aget l a).getD 0+(cnt s a:Int)
  | [],_=>(Int.add_zero _).symm
  | c :: s,l=>(go s (bump l c)).trans (by
   unfold bump cnt
   rw [aget_put,List.count_cons]
   exact (Decidable.em (c=a)).elim (fun e=>by subst e;rw [decide_eq_true rfl,if_pos (beq_self_eq_true c)];show (aget l c).getD 0+1+(s.count c:Int)=_;exact (Int.add_assoc _ 1 _).trans (congrArg _ (Int.add_comm 1 _)))
    fun n=>by rw [decide_eq_false n,if_neg fun h=>n (eq_of_beq h)];rfl)
theorem cnts_of {s:List α} {a:α} (h:a∈s):aget (cnts s) a=some (cnt s a:Int):=by
 have h1:(aget (cnts s) a).isSome=true:=(aget_some (cnts s)).trans (decide_eq_true (cnts_keys s▸(dist_mem s).mpr h))
 have h2:=cnts_get s a
 cases e:aget (cnts s) a with
 | none=>rw [e] at h1;exact nomatch h1
 | some v=>rw [e] at h2;exact congrArg some h2
theorem cnts_length (s:List α):(cnts s).length<=s.length:=nY (as:=cnts s) (·.1)▸cnts_keys s▸dist_length s
end
abbrev Bs:=List (List UInt8)
theorem sortB_length (l:Bs):(sortB l).length=l.length:=(sortB_perm l).length_eq
theorem sortB_congr {l l':Bs} (h:l.Perm l'):sortB l=sortB l':=sorted_eqB ((sortB_perm l).trans h) (sortB_sorted l)
theorem sort_dist {l l':Bs} (h:∀ b,b∈l↔b∈l'):sortB (dist l)=sortB (dist l'):=sortB_congr ((List.perm_ext_iff_of_nodup (dist_nodup l) (dist_nodup l')).mpr fun b=>(dist_mem l).trans ((h b).trans (dist_mem l').symm))
noncomputable def twice (bs:Bs):Bs:=(sortB (dist bs)).filter fun b=>decide (1 < cnt bs b)
theorem twice_congr {l l':Bs} (h:l.Perm l'):twice l=twice l':=by
 unfold twice
 rw [sort_dist fun b=>h.mem_iff]
 exact List.filter_congr fun b uu=>cnt_perm h b▸rfl
noncomputable def namesAll (prs:Nat->Prs) (s:List Nat):Bs:=s.flatMap fun i=>sortB (namesOf (prs i))
theorem namesAll_snoc (prs:Nat->Prs) (s:List Nat) (i:Nat):namesAll prs (s ++ [i])=namesAll prs s ++ sortB (namesOf (prs i)):=List.flatMap_append.trans (congrArg (namesAll prs s ++ ·) (List.append_nil _))
theorem namesAll_length {p:PS} (O:Ok p):∀ s:List Nat,(namesAll p.prs s).length<=4*s.length
 | []=>nB _
 | i :: s=>by
  have h:=namesAll_length O s
  have h1:=namesOf_le (p.prs i)
  have h2:=(O.prs i).length
  have h3:=sortB_length (namesOf (p.prs i))
  show (sortB (namesOf (p.prs i)) ++ namesAll p.prs s).length<=_
  rw [List.length_append,List.length_cons];exact nA (Nat.add_le_add (nA (nG h3) (nA h1 h2)) h) (nG (Nat.add_comm 4 (4*s.length)))
noncomputable def kt:List UInt8×Bool->AV×AV:=rowE .bytes .bool
noncomputable def kc:List UInt8×Int->AV×AV:=rowE .bytes .int
noncomputable def kbK (i:Nat):AV:=.int ((i:Int)+1)
noncomputable def kb:Nat×Bool->AV×AV:=rowE kbK .bool
theorem kB:∀ a b:List UInt8,keyEq (.bytes a) (.bytes b)=decide (a=b):=fun uu uu=>rfl
theorem kN:∀ a b:Nat,keyEq (kbK a) (kbK b)=decide (a=b):=fun a b=>(decide_eq_decide.mpr (by exact om32):decide ((a:Int)+1=(b:Int)+1)=decide (a=b))
theorem keysOf_row {α β:Type} {K:α->AV} {V:β->AV} (l:List (α×β)):keysOf (l.map (rowE K V))=(l.map (·.1)).map K:=by
 show (l.map (rowE K V)).map (·.1)=_
 rw [List.map_map,List.map_map];rfl
theorem rep_true {α:Type} [DecidableEq α] {l:List α} {a:α}:aput (l.map (·,true)) a true=(ins l a).map (·,true):=match l with
 | []=>rfl
 | x :: r=>dec_e (p:=x=a) (C:=fun b=>cond b ((x,true) :: r.map (·,true)) ((x,true) :: aput (r.map (·,true)) a true)=(cond b (x :: r) (x :: ins r a)).map (·,true)) (fun uu=>rfl) fun uu=>congrArg ((x,true) :: ·) rep_true
theorem keys_true {α:Type} (l:List α):(l.map (·,true)).map (·.1)=l:=List.map_map.trans (List.map_id' l)
end B
namespace B
theorem ins_new {α:Type} [DecidableEq α] {a:α}:∀ {l:List α},a ∉ l->ins l a=l ++ [a]
 | [],_=>rfl
 | x :: r,h=>dec_e (p:=x=a) (C:=fun b=>cond b (x :: r) (x :: ins r a)=x :: (r ++ [a])) (fun e=>absurd (e▸.head _) h) fun uu=>congrArg (x :: ·) (ins_new fun q=>h (.tail _ q))
noncomputable def seenE (bs:Bs):List (AV×AV):=((dist bs).map (·,true)).map kt
theorem seen_put (bs:Bs) (b:List UInt8):dput (seenE bs) (.bytes b) (.bool true)=seenE (bs ++ [b]):=(dput_a kB _).trans (congrArg (List.map kt) (rep_true.trans (congrArg (List.map (·,true)) (insAll_snoc bs [] b).symm)))
theorem seen_keys (bs:Bs):keysOf (seenE bs)=(dist bs).map .bytes:=(keysOf_row _).trans (congrArg (List.map AV.bytes) (keys_true _))
theorem seen_len {bs:Bs} {m:Nat} (h:bs.length<=m):(seenE bs).length<=m:=by unfold seenE;rw [nY,nY];exact nA (dist_length bs) h
noncomputable def cntE (bs:Bs):List (AV×AV):=(cnts bs).map kc
theorem cnt_get (bs:Bs) (b:List UInt8):(dget (cntE bs) (.bytes b)).getD (.int 0)=.int (cnt bs b:Int):=by
 have h:=cnts_get bs b
 rw [show dget (cntE bs) (.bytes b)=_ from dget_a kB _]
 cases e:aget (cnts bs) b with
 | none=>rw [e] at h;exact congrArg AV.int h
 | some v=>rw [e] at h;exact congrArg AV.int h
theorem cnt_of {bs:Bs} {b:List UInt8} (h:b∈bs):dget (cntE bs) (.bytes b)=some (.int (cnt bs b:Int)):=(dget_a kB _).trans (cnts_of h▸rfl)
theorem cnt_put (bs:Bs) (b:List UInt8):dput (cntE bs) (.bytes b) (.int ((cnt bs b:Int)+1))=cntE (bs ++ [b]):=by
 have h:bump (cnts bs) b=aput (cnts bs) b ((cnt bs b:Int)+1):=congrArg (fun v=>aput (cnts bs) b (v+1)) (cnts_get bs b)
 exact (dput_a kB _).trans (congrArg (List.map kc) (h.symm.trans (cnts_snoc bs b).symm))
theorem cnt_keys (bs:Bs):keysOf (cntE bs)=(dist bs).map .bytes:=(keysOf_row _).trans (congrArg (List.map AV.bytes) (cnts_keys bs))
theorem cnt_len {bs:Bs} {m:Nat} (h:bs.length<=m):(cntE bs).length<=m:=by unfold cntE;rw [nY];exact nA (cnts_length bs) h
noncomputable def bodE (s:List Nat):List (AV×AV):=((dist s).map (·,true)).map kb
theorem bod_in (s:List Nat) (i:Nat):(dget (bodE s) (.int ((i:Int)+1))).isSome=decide (i∈s):=by
 rw [show dget (bodE s) (.int ((i:Int)+1))=_ from dget_a (a:=i) kN _,Option.isSome_map,aget_some,keys_true]
 exact decide_eq_decide.mpr (dist_mem s)
theorem bod_put (s:List Nat) (i:Nat):dput (bodE s) (.int ((i:Int)+1)) (.bool true)=bodE (s ++ [i]):=(dput_a (a:=i) kN _).trans (congrArg (List.map kb) (rep_true.trans (congrArg (List.map (·,true)) (insAll_snoc s [] i).symm)))
theorem bod_len {s:List Nat} {m:Nat} (h:s.length<=m):(bodE s).length<=m:=by unfold bodE;rw [nY,nY];exact nA (dist_length s) h
theorem dist_old {s:List Nat} {i:Nat} (h:i∈s):dist (s ++ [i])=dist s:=(insAll_snoc s [] i).trans (ins_old ((dist_mem s).mpr h))
theorem dist_new {s:List Nat} {i:Nat} (h:i ∉ s):dist (s ++ [i])=dist s ++ [i]:=(insAll_snoc s [] i).trans (ins_new fun q=>h ((dist_mem s).mp q))
theorem fewL {α:Type} {l:List α} {P:Prop} (m:Nat) (h:l.length<=m) (hm:Nat.blt m 1000=true) (p:P):few l P:=fewI (nF h (nC hm)) p
theorem sortE {vs:List AV} {bs:List (List UInt8)} {k:Nat} {σ:Store} {Q:PostV} (e:vs=bs.map .bytes) (h:bs.length<=60) (q:Q (.lst ((sortB bs).map .bytes)) k σ):sortW vs k σ Q:=by subst e;exact sortI h q
theorem names_len {p:PS} (O:Ok p) (i:Nat):(sortB (namesOf (p.prs i))).length<=4:=nA (nG (sortB_length _)) (nA (namesOf_le _) (O.prs i).length)
theorem all_len {p:PS} (O:Ok p) {d:List Nat} (h:d.length<=6):(namesAll p.prs d).length<=24:=nA (namesAll_length O d) (Nat.mul_le_mul_left 4 h)
theorem app_len {α:Type} {a b c:List α} {m n:Nat} (e:b=c) (h:a.length<=m) (h':c.length<=n):(a ++ b).length<=m+n:=List.length_append▸Nat.add_le_add h (e▸h')
section
variable {most:Int} {n i j t:Nat} {σ:Store} {k:Nat} {p:PS} {l:LS} {Q X:PostV}
theorem w63 (R:Rel most σ k p l) (O:Ok p) (h:(∀ i∈p.stk,2<=p.acc i)->∀ k' σ',Still k σ k' σ'->Q (.lst ((sortB (dist (namesAll p.prs p.stk))).map .bytes)) k' σ') (hx:∀ i∈p.stk,¬ 2<=p.acc i->∀ k' σ',Still k σ k' σ'->X bInv k' σ') :
  L (n+4) (.fn 63) [.cell 22] k σ Q X:=by
 refine run_fn (fn:=fn63) rfl rfl rfl fun ep0=>?_
 have R1:Rel most (upd σ k (.dict 1 [] ep0)) (k+1) p l:=R.fresh _
 refine onI R1.stack (onL R1.thin (fewM 6 O.len.2 rfl (for_map (fun d vars k' σ'=>∃ a b,vars=[some (.cell 22),some (.cell k),a,b,none,none,none]/\(∃ ep,σ' k=some (.dict 1 (seenE (namesAll p.prs d)) ep))/\k+1<=k'/\Low k σ σ'/\∀ i∈d,2<=p.acc i)
  (fun d vars k' σ' hJ=>?_) (fun d t r e vars k' σ' hJ=>?_) (fun vars k' σ' hJ=>?_) ⟨none,none,rfl,⟨ep0,upd_same _ _ _⟩,nB _,(Low.refl k σ).upd _ (nB _),nofun⟩)))
 ·refine eX2 hJ fun a b qA0=>eD5 qA0 fun e3 hk' hle low hd=>?_
  exact (low _ R.th2).trans R.thin
 ·refine eX2 hJ fun a b qA1=>eD5 qA1 fun e1 qA1x3 hle low hd=>?_;refine eX1 qA1x3 fun ep hk'=>?_
  subst e1
  have htm:=mid_mem e
  have ht:=O.stk t htm
  have hk0:k<=k':=nO hle
  have R2:Rel most σ' k' p l:=R.mono low hk0
  refine ⟨_,rfl,fun N' hN'=>w15 R2 ht (fun ha σ2 l2=>w19 (R2.mono l2 (nB _)) O ht fun k4 σ4 S4=>fewM 4 (names_len O t) rfl (for_map (fun d2 vars k' σ'=>∃ b,vars=[some (.cell 22),some (.cell k),some (dthing t),b,none,none,none]/\(∃ ep,σ' k=some (.dict 1 (seenE (namesAll p.prs d ++ d2)) ep))/\k+1<=k'/\Low k σ σ')
    (fun uu uu uu uu uu=>trivial) (fun d2 x r2 f vars k5 σ5 hJ=>?_) (fun vars k5 σ5 hJ=>?_) ⟨b,rfl,⟨ep,?_⟩,nA hle S4.1,(low.trans l2 hk0).trans S4.2 hk0⟩)) fun ha σ2 l2=>hx t htm ha _ _ ⟨hk0,(low.trans l2 hk0).restr⟩⟩
  ·refine eX1 hJ fun b qA2=>eD4 qA2 fun e1 qA2x2 hle5 low5=>?_;refine eX1 qA2x2 fun ep5 hk5=>?_
   subst e1
   have hm:(namesAll p.prs d ++ d2).length<=24+4:=app_len rfl (all_len O (left_le e O.len.2)) (left_le f (names_len O t))
   exact ⟨_,rfl,fun N2 hN2=>onD hk5 (fewL 28 (seen_len hm) rfl fun ep6=>hN2 _ _ _ ⟨_,rfl,⟨ep6,List.append_assoc (namesAll p.prs d) d2 [x]▸seen_put (namesAll p.prs d ++ d2) x▸upd_same _ _ _⟩,hle5,low5.upd _ (nB _)⟩)⟩
  ·refine eX1 hJ fun b qA3=>eD4 qA3 fun e1 qA3x2 hle5 low5=>?_;refine eX1 qA3x2 fun ep5 hk5=>?_
   exact hN' _ _ _ ⟨_,_,e1,⟨ep5,namesAll_snoc p.prs d t▸hk5⟩,hle5,low5,fun i hi=>(List.mem_append.mp hi).elim (hd i) fun hi=>List.mem_singleton.mp hi▸ha⟩
  ·exact (S4.2 k hle).trans ((l2 k hle).trans (hk'.trans (by rw [List.append_nil])))
 ·refine eX2 hJ fun a b qA4=>eD5 qA4 fun e1 qA4x3 hle low hd=>?_;refine eX1 qA4x3 fun ep hk'=>?_
  subst e1
  exact onD hk' (sortE (seen_keys _) (nA (dist_length _) (nA (all_len O O.len.2) (by decide))) (h hd _ _ ⟨nO hle,low.restr⟩))
noncomputable def bumpS (x y:Nat):S:=.cons (.asg (.sub (.loc x) (.loc y)) (.bin false .Add (.meth (.loc x) 13 (.cons (.loc y) (.cons (.cst (.int 0)) .nil))) (.cst (.int 1)))) .nil
theorem addI {a:AV} {v w:Int} {m:Bool} (e:a=.int v) (h:smallC v (smallC w (Q (.int (v+w)) k σ))):addW m a (.int w) k σ Q:=by subst e;exact h
theorem bump_step {cw:AV->List AV->Nat->Store->PostV->PostV->Prop} {N:PostN} {R':PostV} {c x y ep:Nat} {vars:Vars} {bs:Bs} {b:List UInt8} (hx:vars[x]?=some (some (.cell c))) (hy:vars[y]?=some (some (.bytes b))) (hc:σ c=some (.dict 1 (cntE bs) ep)) (hl:bs.length<=60)
  (h:∀ σ',(∀ i,i≠c->σ' i=σ i)->(∃ ep,σ' c=some (.dict 1 (cntE (bs ++ [b])) ep))->N vars k σ'):exW cw (bumpS x y) vars k σ N R' X:=by
 have hb:cnt bs b<=60:=nA cnt_le hl
 refine okI hx (okI rfl (onD hc (okI hy (okI rfl (onD hc (addI (cnt_get bs b) (smI (by exact om16 hb rfl) (smI (by decide) (okI hx (okI rfl (okI hy (okI rfl (onD hc (fewL 60 (cnt_len hl) rfl fun ep'=>?_))))))))))))))
 exact h _ (fun i hi=>upd_other _ _ hi) ⟨ep',cnt_put bs b▸upd_same _ _ _⟩
noncomputable def pickC (bs:Bs) (b:List UInt8):Option AV:=cond (decide (1 < cnt bs b)) (some (.bytes b)) none
theorem filter_pickC (bs:Bs):∀ l:Bs,l.filterMap (pickC bs)=(l.filter fun b=>decide (1 < cnt bs b)).map .bytes
 | []=>rfl
 | a :: r=>by
  cases e:decide (1 < cnt bs a) with
  | true=>rw [List.filterMap_cons_some (show pickC bs a=some (.bytes a) by unfold pickC;rw [e];rfl),List.filter_cons_of_pos (p:=fun b=>decide (1 < cnt bs b)) e];exact congrArg (AV.bytes a :: ·) (filter_pickC bs r)
  | false=>rw [List.filterMap_cons_none (show pickC bs a=none by unfold pickC;rw [e];rfl),List.filter_cons_of_neg (p:=fun b=>decide (1 < cnt bs b)) fun h=>nomatch e.symm.trans h];exact filter_pickC bs r
noncomputable def twiceE (x:Nat):E:=.comp false (.loc 1) (.loc 1) (.call (.glb 53) (.cons (.loc x) .nil)) (.cons (.cmp .Gt (.sub (.loc 2) (.loc 1)) (.cst (.int 1))) .nil) 3 [(2,x)]
theorem twice_comp {cw:AV->List AV->Nat->Store->PostV->PostV->Prop} {c ep x:Nat} {bs:Bs} {vars:Vars} (hl:bs.length<=60) (hc:σ c=some (.dict 1 (cntE bs) ep)) (hv:vars[x]?=some (some (.cell c))) (h:Q (.lst ((twice bs).map .bytes)) k σ):evW cw (twiceE x) vars k σ Q X:=by
 have hd:=nA (dist_length bs) hl
 refine okI hv (okI rfl (onD hc ?_))
 refine cT rfl (sortE (cnt_keys bs) hd ?_)
 refine fewM 60 (sortB_length (dist bs)▸hd) rfl (comp_map (fun vars=>∃ x,vars=[none,x,some (.cell c)]) (fun k' σ'=>k'=k/\σ'=σ) (pickC bs) (fun uu uu uu=>trivial) ⟨none,?_⟩ ⟨rfl,rfl⟩ (fun b hb vars hV=>?_) fun k' σ' hJ=>?_)
 ·show [none,none,(vars[x]?).getD none]=_;rw [hv];rfl
 ·refine eX1 hV fun y e=>?_
  subst e
  have hm:b∈bs:=(dist_mem bs).mp ((sortB_perm _).mem_iff.mp hb)
  have hcnt:cnt bs b<=60:=nA cnt_le hl
  refine ⟨_,rfl,⟨_,rfl⟩,fun k' σ' hJ=>?_⟩
  refine eD2 hJ fun e1 e2=>?_
  subst e1 e2
  refine ⟨fun Qb hq=>onD hc (okI (cnt_of hm) ?_),fun a ha Qe hq=>?_⟩
  ·have hq:=hq _ _ ⟨rfl,rfl⟩
   have hd:decide ((1:Int) < (cnt bs b:Int))=decide (1 < cnt bs b):=decide_eq_decide.mpr (by exact Int.ofNat_lt (n:=1))
   unfold pickC at hq
   cases e:decide (1 < cnt bs b) with
   | true=>rw [e] at hq hd;exact (hd▸hq:Qb (decide ((1:Int) < (cnt bs b:Int))) k' σ')
   | false=>rw [e] at hq hd;exact (hd▸hq:Qb (decide ((1:Int) < (cnt bs b:Int))) k' σ')
  ·unfold pickC at ha
   cases e:decide (1 < cnt bs b) with
   | true=>rw [e] at ha;exact oJ ha▸hq _ _ ⟨rfl,rfl⟩
   | false=>rw [e] at ha;exact nomatch ha
 ·refine eD2 hJ fun e1 e2=>?_
  subst e1 e2
  rw [filter_pickC]
  exact h
theorem nTs {α:Type} {o:Option α} {P Q:Prop} (e:o.isSome=true) (q:Q):cond (!o.isSome) P Q:=cF (e▸rfl) q
theorem nFs {α:Type} {o:Option α} {P Q:Prop} (e:o.isSome=false) (q:P):cond (!o.isSome) P Q:=cT (e▸rfl) q
theorem w64 (R:Rel most σ k p l) (O:Ok p) (h:(∀ i∈p.stk,2<=p.acc i)->∀ k' σ',Still k σ k' σ'->Q (.lst ((twice (namesAll p.prs (dist p.stk))).map .bytes)) k' σ') (hx:∀ i∈p.stk,¬ 2<=p.acc i->∀ k' σ',Still k σ k' σ'->X bInv k' σ') :
  L (n+4) (.fn 64) [.cell 22] k σ Q X:=by
 refine run_fn (fn:=fn64) rfl rfl rfl fun ep0 ep1=>?_
 have R1:Rel most (upd (upd σ k (.dict 1 [] ep0)) (k+1) (.dict 0 [] ep1)) (k+1+1) p l:=(R.fresh _).fresh _
 have kk:k≠k+1:=nH (nQ k)
 refine onI R1.stack (onL R1.thin (fewM 6 O.len.2 rfl (for_map (fun d vars k' σ'=>∃ a b,vars=[some (.cell 22),some (.cell k),some (.cell (k+1)),a,b,none,none,none]/\(∃ ep,σ' k=some (.dict 1 (cntE (namesAll p.prs (dist d))) ep))/\(∃ ep,σ' (k+1)=some (.dict 0 (bodE d) ep))/\k+1+1<=k'/\Low k σ σ'/\∀ i∈d,2<=p.acc i)
  (fun d vars k' σ' hJ=>?_) (fun d t r e vars k' σ' hJ=>?_) (fun vars k' σ' hJ=>?_) ⟨none,none,rfl,⟨ep0,(upd_other _ _ kk).trans (upd_same _ _ _)⟩,⟨ep1,upd_same _ _ _⟩,nB _,((Low.refl k σ).upd _ (nB _)).upd _ (Nat.le_succ _),nofun⟩)))
 ·refine eX2 hJ fun a b qA8=>eD6 qA8 fun e3 hk' hq hle low hd=>?_
  exact (low _ R.th2).trans R.thin
 ·refine eX2 hJ fun a b qA9=>eD6 qA9 fun e1 qA9x3 qA9x4 hle low hd=>?_;refine eX1 qA9x3 fun ep hk'=>?_;refine eX1 qA9x4 fun eq hq'=>?_
  subst e1
  have htm:=mid_mem e
  have ht:=O.stk t htm
  have hk0:k<=k':=nO (nO hle)
  have R2:Rel most σ' k' p l:=R.mono low hk0
  refine ⟨_,rfl,fun N' hN'=>w15 R2 ht (fun ha σ2 l2=>?_) fun ha σ2 l2=>hx t htm ha _ _ ⟨hk0,(low.trans l2 hk0).restr⟩⟩
  have hd':∀ i∈d ++ [t],2<=p.acc i:=fun i hi=>(List.mem_append.mp hi).elim (hd i) fun hi=>List.mem_singleton.mp hi▸ha
  have R3:Rel most σ2 k' p l:=R2.mono l2 (nB _)
  have low3:=low.trans l2 hk0
  have hk3:=(l2 k (nO hle)).trans hk'
  have hq3:=(l2 (k+1) hle).trans hq'
  have hb:=bod_in d t
  refine onI (R3.body t ht) (onD hq3 ?_)
  by_cases hin:t∈d
  ·rw [decide_eq_true hin] at hb
   have e5:bodE (d ++ [t])=bodE d:=congrArg (fun s=>(List.map (·,true) s).map kb) (dist_old hin)
   exact nTs hb (hN' _ _ _ ⟨_,_,rfl,⟨ep,dist_old hin▸hk3⟩,⟨eq,e5▸hq3⟩,hle,low3,hd'⟩)
  ·rw [decide_eq_false hin] at hb
   refine nFs hb (onI (R3.body t ht) (onD hq3 (fewL 6 (bod_len (left_le e O.len.2)) rfl fun ep3=>?_)))
   have low4:=low3.upd (.dict 0 (dput (bodE d) (.int ((t:Int)+1)) (.bool true)) ep3) (Nat.le_succ k)
   have hq4:upd σ2 (k+1) (.dict 0 (dput (bodE d) (.int ((t:Int)+1)) (.bool true)) ep3) (k+1)=some (.dict 0 (bodE (d ++ [t])) ep3):=bod_put d t▸upd_same _ _ _
   refine w19 (R.mono low4 hk0) O ht fun k4 σ4 S4=>fewM 4 (names_len O t) rfl (for_map (fun d2 vars k' σ'=>∃ b,vars=[some (.cell 22),some (.cell k),some (.cell (k+1)),some (dthing t),b,none,none,none]/\(∃ ep,σ' k=some (.dict 1 (cntE (namesAll p.prs (dist d) ++ d2)) ep))/\(∃ ep,σ' (k+1)=some (.dict 0 (bodE (d ++ [t])) ep))/\k+1+1<=k'/\Low k σ σ')
    (fun uu uu uu uu uu=>trivial) (fun d2 x r2 f vars k5 σ5 hJ=>?_) (fun vars k5 σ5 hJ=>?_) ⟨b,rfl,⟨ep,?_⟩,⟨ep3,(S4.2 (k+1) hle).trans hq4⟩,nA hle S4.1,low4.trans S4.2 hk0⟩)
   ·refine eX1 hJ fun b qA10=>eD5 qA10 fun e1 qA10x2 qA10x3 hle5 low5=>?_;refine eX1 qA10x2 fun ep5 hk5=>?_;refine eX1 qA10x3 fun ep6 hk6=>?_
    subst e1
    have hm:(namesAll p.prs (dist d) ++ d2).length<=24+4:=app_len rfl (all_len O (nA (dist_length d) (left_le e O.len.2))) (left_le f (names_len O t))
    exact ⟨_,rfl,fun N2 hN2=>bump_step (x:=1) (y:=4) rfl rfl hk5 (nA hm (by decide)) fun σ6 h6 ⟨ep7,h7⟩=>hN2 _ _ _ ⟨_,rfl,⟨ep7,List.append_assoc (namesAll p.prs (dist d)) d2 [x]▸h7⟩,⟨ep6,(h6 _ (Ne.symm kk)).trans hk6⟩,hle5,low5.but (nB _) h6⟩⟩
   ·refine eX1 hJ fun b qA11=>eD5 qA11 fun e1 qA11x2 hk6 hle5 low5=>?_;refine eX1 qA11x2 fun ep5 hk5=>?_
    exact hN' _ _ _ ⟨_,_,e1,⟨ep5,dist_new hin▸namesAll_snoc p.prs (dist d) t▸hk5⟩,hk6,hle5,low5,hd'⟩
   ·exact (S4.2 k (nO hle)).trans ((upd_other _ _ kk).trans (hk3.trans (by rw [List.append_nil])))
 ·refine eX2 hJ fun a b qA12=>eD6 qA12 fun e1 qA12x3 hq hle low hd=>?_;refine eX1 qA12x3 fun ep hk'=>?_
  subst e1
  refine twice_comp (x:=1) (nA (all_len O (nA (dist_length _) O.len.2)) (by decide)) hk' rfl (h hd _ _ ⟨nO (nO hle),low.restr⟩)
end
end B
namespace B
section
variable {n c:Nat} {σ:Store} {k:Nat} {Q X:PostV}
theorem upd4 {x1 x2 x3 x4:Cell} {k₀ j:Nat} (hj:j < k₀) (hne:j≠c):restr k₀ (upd (upd (upd (upd σ c x1) c x2) c x3) c x4) j=σ j :=
 (restr_low _ hj).trans ((upd_other _ _ hne).trans ((upd_other _ _ hne).trans ((upd_other _ _ hne).trans (upd_other _ _ hne))))
theorem w46 {a v:AV} (hc':c < k) (h0:σ c=some (.inst 1 [])) (h:∀ σ',σ' c=some (.inst 1 [(1,a),(2,v),(3,.bool false),(4,.int 3)])->(∀ j,j < k->j≠c->σ' j=σ j)->Q .none k σ'):L (n+1) (.fn 46) [.cell c,a,v] k σ Q X :=
 run_fn (fn:=fn46) rfl rfl rfl (onI h0 (onI (upd_same _ _ _) (onI (upd_same _ _ _) (onI (upd_same _ _ _) (h _ ((restr_low _ hc').trans (upd_same _ _ _)) fun j hj hne=>upd4 hj hne)))))
theorem w46b {a v:AV} (hc':c < k) (h0:σ c=some (.inst 1 [])) (h:∀ σ',σ' c=some (.inst 1 [(1,a),(2,v),(3,.bool false),(4,.int 3)])->(∀ j,j < k->j≠c->σ' j=σ j)->Q .none k σ'):L (n+1) (.fn 46) [.cell c,a,v,.bool false] k σ Q X :=
 run_fn (fn:=fn46) rfl rfl rfl (onI h0 (onI (upd_same _ _ _) (onI (upd_same _ _ _) (onI (upd_same _ _ _) (h _ ((restr_low _ hc').trans (upd_same _ _ _)) fun j hj hne=>upd4 hj hne)))))
theorem made_low {σ':Store} {c0:Cell} (h2:∀ j,j < k+1->j≠k->σ' j=upd σ k c0 j):Low k σ (restr k (del σ' k)):=Low.restr fun j hj =>
 have hne:=nH hj
 (if_neg hne:del σ' k j=σ' j).trans ((h2 j (nX hj) hne).trans (upd_other _ _ hne))
theorem w0 {v:AV} (h:∀ k' σ',Still k σ k' σ'->Q (thing sInt v) k' σ'):L (n+2) (.fn 0) [v] k σ Q X :=
 run_fn (fn:=fn0) rfl rfl rfl (w46 (nQ k) (upd_same _ _ _) fun σ' h1 h2=>onI h1 (h _ _ ⟨Nat.le_succ k,made_low h2⟩))
theorem w2 {v:AV} (h:∀ σ',Low k σ σ'->Q (thing sDict v) (k+1) σ'):L (n+2) (.fn 2) [v] k σ Q X :=
 run_fn (fn:=fn2) rfl rfl rfl (w46 (nQ k) (upd_same _ _ _) fun σ' h1 h2=>onI h1 (h _ (made_low h2)))
theorem w1 {v:AV} (h:∀ k' σ',Still k σ k' σ'->Q (thing sName v) k' σ'):L (n+2) (.fn 1) [v] k σ Q X :=
 run_fn (fn:=fn1) rfl rfl rfl (w46b (nQ k) (upd_same _ _ _) fun σ' h1 h2=>onI h1 (h _ _ ⟨Nat.le_succ k,made_low h2⟩))
theorem four {C:Nat->Prop} (h0:C 0) (h1:C 1) (h2:C 2) (h3:C 3):∀ {j:Nat},j < 4->C j
 | 0,_=>h0
 | 1,_=>h1
 | 2,_=>h2
 | 3,_=>h3
theorem w29 {j:Nat} (hj:j < 4):(∀ k' σ',Still k σ k' σ'->Q (kthing j) k' σ')->L (n+3) (.fn 29) [.int (j:Int)] k σ Q X:=four (C:=fun j=>(∀ k' σ',Still k σ k' σ'->Q (kthing j) k' σ')->L (n+3) (.fn 29) [.int (j:Int)] k σ Q X)
 (fun h=>run_fn (fn:=fn29) rfl rfl rfl (w1 fun k' σ' S=>h _ _ S.restr)) (fun h=>run_fn (fn:=fn29) rfl rfl rfl (w1 fun k' σ' S=>h _ _ S.restr))
 (fun h=>run_fn (fn:=fn29) rfl rfl rfl (w1 fun k' σ' S=>h _ _ S.restr)) (fun h=>run_fn (fn:=fn29) rfl rfl rfl (w0 fun k' σ' S=>h _ _ S.restr)) hj
end
theorem fmodB {x y:Int} (h:0 < y):0<=Int.fmod x y/\Int.fmod x y < y:=by
 rw [Int.fmod_eq_emod_of_nonneg _ (Int.le_of_lt h)]
 exact ⟨Int.emod_nonneg _ (Int.ne_of_gt h),Int.emod_lt_of_pos _ h⟩
structure WellOk (l:LS):Prop where
 nums:∀ x∈l.nums,0<=x/\x < 1000003
 len:l.nums.length<=20
 pos:0<=l.pos/\l.pos < 1000
 stir:0<=l.stir/\l.stir < 100043
theorem and3 {a b c:Prop} (h:a) (h':b) (h'':c):a/\b/\c:=⟨h,h',h''⟩
section
variable {most:Int} {n i j t:Nat} {σ:Store} {k:Nat} {p:PS} {l:LS} {Q X:PostV}
theorem Rel.setWell (R:Rel most σ k p l) (a b:Int):Rel most (upd σ 0 (.list [.lst (l.nums.map .int),.int a,.int b])) k p { l with pos:=a,stir:=b }:=by
 have o:∀ {j c},0 < j->upd σ 0 c j=σ j:=fun h=>upd_other _ _ (Nat.ne_of_gt h)
 exact ⟨R.low,upd_same _ _ _,(o (by decide)).trans R.lim,(o (by decide)).trans R.mem,R.made.imp fun uu e=>(o (by decide)).trans e,fun i hi=>(o (Nat.add_pos_left (by decide) _)).trans (R.body i hi),fun i hi=>(R.ent i hi).imp fun uu e=>(o (Nat.add_pos_left (by decide) _)).trans e,
  (o (by decide)).trans R.accs,(o (by decide)).trans R.prss,R.state.imp fun uu e=>(o (by decide)).trans e,(o (by decide)).trans R.stack,(o (nD (by decide) R.th1)).trans R.thin,R.th1,R.th2⟩
theorem smB {i:Int} {P:Prop} (h:-1000000000<=i/\i<=1000000000) (p:P):smallC i P:=cT (nJ (om98 h rfl:i.natAbs+1<=2 ^ 60)) p
theorem well_tail {RR XX:PostV} {N:PostN} (hw:σ 0=some (.list [.lst (l.nums.map .int),.int l.pos,.int l.stir])) (W:WellOk l) {size pick:Int} (h0:0 < size) (q0:0<=pick) (q1:pick < 2000000)
  (h:∀ r stir':Int,0<=r->r < size->0<=stir'->stir' < 100043->RR (.int r) k (upd (upd σ 0 (.list [.lst (l.nums.map .int),.int (l.pos+1),.int l.stir])) 0 (.list [.lst (l.nums.map .int),.int (l.pos+1),.int stir']))) :
  exW (L n) (sDrop 2 b28) [some (.cell 0),some (.int size),some (.lst (l.nums.map .int)),some (.int l.pos),some (.int l.stir),some (.int pick),none] k σ N RR XX:=by
 have hpo:=W.pos
 have hst:=W.stir
 have b1:=fmodB (x:=pick) (y:=9949) (by decide)
 refine smB (by exact om19 hpo rfl) (smB (by decide) (smB (by exact om19 hst rfl) (smB (by decide) (And.intro (by decide) (smB (by exact om24 hst rfl) (smB (by exact om19 b1 rfl) (smB (by exact om19 hpo rfl) (smB (by exact om158 (om24 (c:=0) (d:=4301849) hst rfl) (om19 (c:=0) (d:=9949) b1 rfl) rfl) (smB (by exact om23 hpo rfl) (smB (by exact om158 (om158 (e:=0) (f:=4311798) (om24 (c:=0) (d:=4301849) hst rfl) (om19 (c:=0) (d:=9949) b1 rfl) rfl) (om23 (c:=0) (d:=11000) hpo rfl) rfl) (smB (by decide) (And.intro (by decide) ?_))))))))))))
 refine onL hw (and3 (by decide) (by decide:(1:Int) < 3) (onL (upd_same _ _ _) (and3 (by decide) (by decide:(2:Int) < 3) (And.intro h0 ?_))))
 exact h _ _ (fmodB h0).1 (fmodB h0).2 (fmodB (by decide)).1 (fmodB (by decide)).2
theorem w28g (hw:σ 0=some (.list [.lst (l.nums.map .int),.int l.pos,.int l.stir])) (hk:0 < k) (W:WellOk l) {size:Int} (h0:0 < size)
  (h:∀ r σ' stir',0<=r->r < size->0<=stir'->stir' < 100043->σ' 0=some (.list [.lst (l.nums.map .int),.int (l.pos+1),.int stir'])->(∀ j,j < k->j≠0->σ' j=σ j)->Q (.int r) k σ') :
  L (n+1) (.fn 28) [.cell 0,.int size] k σ Q X:=by
 have hpo:=W.pos
 have fin:∀ r stir':Int,0<=r->r < size->0<=stir'->stir' < 100043->Q (.int r) k (restr k (upd (upd σ 0 (.list [.lst (l.nums.map .int),.int (l.pos+1),.int l.stir])) 0 (.list [.lst (l.nums.map .int),.int (l.pos+1),.int stir']))):=fun r stir' a b d e =>
  h r _ stir' a b d e ((restr_low _ hk).trans (upd_same _ _ _)) fun j hj hne=>(restr_low _ hj).trans ((upd_other _ _ hne).trans (upd_other _ _ hne))
 refine run_fn (fn:=fn28) rfl rfl rfl (onL hw (fewM 20 W.len rfl ?_))
 rw [nY]
 refine cD (fun hlt=>?_) fun hlt=>well_tail hw W h0 W.stir.1 (Int.lt_trans W.stir.2 (by decide)) fin
 obtain ⟨a,ha⟩:∃ a:Nat,l.pos=a:=⟨l.pos.toNat,by exact om42 hpo.1⟩
 have hal:a < l.nums.length:=by exact Int.ofNat_lt.mp (ha▸hlt)
 have hb:=W.nums _ (List.getElem_mem hal)
 have idx:∀ {P:AV->Prop},P (.int l.nums[a])->idxW (l.nums.map .int) (.int l.pos) P:=fun q=>by rw [ha];exact idxM (nA1 hal) (by exact Int.ofNat_le.mp (ha▸Int.le_trans (Int.le_of_lt hpo.2) (by decide:(1000:Int)<=(1000000:Nat)))) q
 exact idx (well_tail hw W h0 hb.1 (Int.lt_trans hb.2 (by decide)) fin)
theorem w28 (R:Rel most σ k p l) (W:WellOk l) {size:Int} (h0:0 < size)
  (h:∀ r σ' stir',0<=r->r < size->0<=stir'->stir' < 100043->Rel most σ' k p { l with pos:=l.pos+1,stir:=stir' }->Q (.int r) k σ') :
  L (n+1) (.fn 28) [.cell 0,.int size] k σ Q X :=
 w28g R.well (nD (by decide) R.low) W h0 fun r σ' stir' a b d e hw hr=>h r σ' stir' a b d e ((R.setWell (l.pos+1) stir').mono (fun j hj=>(Decidable.em (j=0)).elim (fun q=>by subst q;exact hw.trans (upd_same _ _ _).symm) fun q=>(hr j hj q).trans (upd_other _ _ q).symm) (nB _))
end
end B
namespace B
theorem run_clo {n c:Nat} {lm:Lm} {vars:Vars} {caps args:List AV} {k:Nat} {σ:Store} {Q X:PostV} (h1:Λ c=some lm) (h2:bindL lm caps args=some vars) (h:evW (L n) lm.body vars k σ Q X):L (n+1) (.clo c caps) args k σ Q X:=by
 unfold L
 rw [callW_s]
 exact ⟨okI h1 (okI h2 h)⟩
theorem for_rest {α:Type} {f:α->AV} {t:T} {body:Vars->Nat->Store->PostN->Prop} {inv:Store->Prop} {N:PostN} (J:List α->Vars->Nat->Store->Prop) (hi:∀ d vars k σ,J d vars k σ->inv σ)
  (hs:∀ x r vars k σ,J (x :: r) vars k σ->∃ vars',asT t (f x) vars=some vars'/\∀ N':PostN,(∀ vars k σ,J r vars k σ->N' vars k σ)->body vars' k σ N')
  (hN:∀ vars k σ,J [] vars k σ->N vars k σ):∀ (s:List α) {vars:Vars} {k:Nat} {σ:Store},J s vars k σ->forW t body inv (s.map f) vars k σ N
 | [],_,_,_,h=>⟨hi _ _ _ _ h,hN _ _ _ h⟩
 | x :: r,_,_,_,h=>(hs x r _ _ _ h).elim fun vars' q=>⟨hi _ _ _ _ h,okI q.1 (q.2 _ fun vars k σ h'=>for_rest J hi hs hN r h')⟩
structure Sim (p:PS) (l:LS):Prop where
 stk:p.stk=l.stk
 acc:p.acc=l.acc
 prs:p.prs=l.prs
theorem idx5 {f:Nat->AV} {i:Nat} {Q:AV->Prop} (h:i < 5) (q:Q (f i)):idxW ((List.range 5).map f) (.int (i:Int)) Q:=idxM (List.getElem?_range h) (by exact om13 h rfl) q
theorem set5 {i:Nat} (h:i < 5) (f g:Nat->AV) (h2:∀ j,j≠i->g j=f j):((List.range 5).map f).set ((i:Int)).toNat (g i)=(List.range 5).map g:=by
 rw [show ((i:Int)).toNat=i from rfl]
 refine List.ext_getElem (by rw [List.length_set,nY,nY]) fun m h1 h3=>?_
 rw [List.getElem_set,List.getElem_map,List.getElem_map,List.getElem_range]
 by_cases e:i=m
 ·rw [if_pos e,e]
 ·rw [if_neg e];exact (h2 m (Ne.symm e)).symm
noncomputable def kKind:Nat->AV
 | 0=>.str sName
 | 1=>.str sName
 | 2=>.str sName
 | _=>.str sInt
noncomputable def kVal:Nat->AV
 | 0=>.bytes [97]
 | 1=>.bytes [98]
 | 2=>.bytes [99,99]
 | _=>.int 7
noncomputable def toldV (q:Nat×Int):AV:=.tup [kKind q.1,kVal q.1,.str sInt,.int q.2]
noncomputable def retE:S->E
 | .ret e=>e
 | .cons s _=>retE s
 | _=>.bad
noncomputable def eltE:E->E
 | .comp _ e _ _ _ _ _=>e
 | e=>e
theorem inAs_keys (j:Nat):∀ l:Prs,inAs (j:Int) (l.map fun q=>AV.int q.1)=some (lk l j).isSome
 | []=>rfl
 | q :: r=>by
  show (inAs (j:Int) (r.map fun q=>AV.int q.1)).bind (fun t=>some (decide ((q.1:Int)=(j:Int))||t))=some (cond (Nat.beq q.1 j) (some q.2) (lk r j)).isSome
  rw [inAs_keys j r]
  exact beq_e (C:=fun b=>some (decide ((q.1:Int)=(j:Int))||(lk r j).isSome)=some (cond b (some q.2) (lk r j)).isSome) (fun e=>by rw [decide_eq_true (by exact om29 e)];rfl) fun n=>by rw [decide_eq_false (by exact om30 n)];rfl
noncomputable def upV (j:Nat) (v:Int) (q:Nat×Int):AV:=.tup [.int q.1,cond (decide ((q.1:Int)=(j:Int))) (.int v) (.int q.2)]
theorem upV_no {j:Nat} {v:Int} {q:Nat×Int} (h:q.1≠j):upV j v q=pairV q:=by unfold upV;rw [decide_eq_false (by exact om30 h)];rfl
theorem put_map {j:Nat} {v w:Int}:∀ {l:Prs},Fine l->lk l j=some w->l.map (upV j v)=(put l j v).map pairV
 | [],_,h=>nomatch h
 | q :: r,F,h=>beq_e (a:=q.1) (b:=j) (C:=fun b=>cond b (some q.2) (lk r j)=some w->upV j v q :: r.map (upV j v)=(cond b ((q.1,v) :: r) (q :: put r j v)).map pairV)
   (fun e uu=>congr (congrArg List.cons (by unfold upV;rw [decide_eq_true (by exact om29 e)];rfl)) (List.map_congr_left fun x hx=>upV_no fun e'=>(nB1.mp F.nd).1 (List.mem_map.mpr ⟨x,hx,e'.trans e.symm⟩)))
   (fun n h=>congr (congrArg List.cons (upV_no n)) (put_map F.tail h)) h
theorem put_new {j:Nat} {v:Int}:∀ {l:Prs},lk l j=none->put l j v=l ++ [(j,v)]
 | [],_=>rfl
 | q :: r,h=>beq_e (a:=q.1) (b:=j) (C:=fun b=>cond b (some q.2) (lk r j)=none->cond b ((q.1,v) :: r) (q :: put r j v)=q :: (r ++ [(j,v)])) (fun uu h=>nomatch h) (fun uu h=>congrArg (q :: ·) (put_new h)) h
section
variable {most:Int} {n i j t:Nat} {σ:Store} {k:Nat} {p:PS} {l:LS} {Q X:PostV}
theorem told_step {cw:AV->List AV->Nat->Store->PostV->PostV->Prop} {v:Int} (hj:j < 4):Q (toldV (j,v)) k σ->evW cw (eltE (retE b30)) [none,some (kthing j),some (vthing v)] k σ Q X :=
 four (C:=fun j=>Q (toldV (j,v)) k σ->evW cw (eltE (retE b30)) [none,some (kthing j),some (vthing v)] k σ Q X) id id id id hj
theorem due_step {cw:AV->List AV->Nat->Store->PostV->PostV->Prop} {v:Int} {y:Option AV} (hj:j < 4):Q (toldV (j,v)) k σ->evW cw (eltE (retE b31)) [none,some (.int (j:Int)),some (.int v),y] k σ Q X :=
 four (C:=fun j=>Q (toldV (j,v)) k σ->evW cw (eltE (retE b31)) [none,some (.int (j:Int)),some (.int v),y] k σ Q X) id id id id hj
theorem w30 {r:Prs} (F:Fine r) (h:∀ k' σ',Still k σ k' σ'->Q (.lst (r.map toldV)) k' σ'):L (n+1) (.fn 30) [.lst (r.map rowV)] k σ Q X:=by
 refine run_fn (fn:=fn30) rfl rfl rfl (fewM 4 F.length rfl (comp_mapA (f:=toldV) (fun vars=>∃ x y,vars=[none,x,y]) (fun k' σ'=>k'=k/\σ'=σ) (fun uu uu uu=>trivial) ⟨none,none,rfl⟩ ⟨rfl,rfl⟩ (fun vars k σ Qb h=>h) (fun q hq vars hV=>?_) fun k' σ' hJ=>?_))
 ·refine eX2 hV fun x y e=>?_
  subst e
  exact ⟨_,rfl,⟨_,_,rfl⟩,fun k' σ' Qe hJ hQ=>told_step (F.keys q hq).1 (hQ _ _ hJ)⟩
 ·refine eD2 hJ fun e1 e2=>?_
  subst e1 e2
  exact h _ _ (Still.refl k' σ').restr
theorem w31 {r:Prs} (F:Fine r) (h:∀ k' σ',Still k σ k' σ'->Q (.lst (r.map toldV)) k' σ'):L (n+1) (.fn 31) [.lst (r.map pairV)] k σ Q X:=by
 refine run_fn (fn:=fn31) rfl rfl rfl (fewM 4 F.length rfl (comp_mapA (f:=toldV) (fun vars=>∃ x y z,vars=[none,x,y,z]) (fun k' σ'=>k'=k/\σ'=σ) (fun uu uu uu=>trivial) ⟨none,none,none,rfl⟩ ⟨rfl,rfl⟩ (fun vars k σ Qb h=>h) (fun q hq vars hV=>?_) fun k' σ' hJ=>?_))
 ·refine eX3 hV fun x y z e=>?_
  subst e
  exact ⟨_,rfl,⟨_,_,_,rfl⟩,fun k' σ' Qe hJ hQ=>due_step (F.keys q hq).1 (hQ _ _ hJ)⟩
 ·refine eD2 hJ fun e1 e2=>?_
  subst e1 e2
  exact h _ _ (Still.refl k' σ').restr
theorem keys_in {r:Prs} (F:Fine r) {elt:Vars->Nat->Store->PostV->Prop} {ok:Vars->Nat->Store->(Bool->Nat->Store->Prop)->Prop} {T:List AV->Nat->Store->Prop} (he:∀ x y k σ Q,Q x k σ->elt [none,some x,some y] k σ Q) (hok:∀ vars k σ Qb,Qb true k σ->ok vars k σ Qb)
  (h:T (r.map fun q=>.int q.1) k σ):few (r.map pairV) (compW elt ok (.tup (.cons (.loc 1) (.cons (.loc 2) .nil))) (fun uu=>True) (r.map pairV) [] [none,none,none] k σ T):=by
 refine fewM 4 F.length rfl (comp_mapA (f:=fun q=>.int q.1) (fun vars=>∃ x y,vars=[none,x,y]) (fun k' σ'=>k'=k/\σ'=σ) (fun uu uu uu=>trivial) ⟨none,none,rfl⟩ ⟨rfl,rfl⟩ hok (fun q hq vars hV=>?_) fun k' σ' hJ=>?_)
 ·refine eX2 hV fun x y e=>?_
  subst e
  exact ⟨_,rfl,⟨_,_,rfl⟩,fun k' σ' Qe hJ hQ=>he _ _ _ _ _ (hQ _ _ hJ)⟩
 ·refine eD2 hJ fun e1 e2=>?_
  subst e1 e2
  exact h
theorem w32 {r:Prs} (F:Fine r) {v:Int} (h:∀ k' σ',Still k σ k' σ'->Q (.lst ((put r j v).map pairV)) k' σ'):L (n+1) (.fn 32) [.lst (r.map pairV),.int (j:Int),.int v] k σ Q X:=by
 refine run_fn (fn:=fn32) rfl rfl rfl (keys_in F (fun uu uu uu uu uu h=>h) (fun uu uu uu uu h=>h) (okI (inAs_keys j r) ?_))
 cases e:lk r j with
 | some w =>
  refine fewM 4 F.length rfl (comp_mapA (f:=upV j v) (fun vars=>∃ x y,vars=[none,x,y,some (.int (j:Int)),some (.int v)]) (fun k' σ'=>k'=k/\σ'=σ) (fun uu uu uu=>trivial) ⟨none,none,rfl⟩ ⟨rfl,rfl⟩ (fun vars k σ Qb h=>h) (fun q hq vars hV=>?_) fun k' σ' hJ=>?_)
  ·refine eX2 hV fun x y e=>?_
   subst e
   refine ⟨_,rfl,⟨_,_,rfl⟩,fun k' σ' Qe hJ hQ=>?_⟩
   have hq:=hQ _ _ hJ
   unfold upV at hq
   refine cD (fun e=>?_) fun e=>?_
   ·rw [decide_eq_true e] at hq;exact hq
   ·rw [decide_eq_false e] at hq;exact hq
  ·refine eD2 hJ fun e1 e2=>?_
   subst e1 e2
   rw [put_map F e]
   exact h _ _ (Still.refl k' σ').restr
 | none =>
  have q:=h _ _ (Still.refl k σ).restr
  rw [put_new e,List.map_append] at q
  exact fewM 4 F.length rfl q
theorem w34_2 {c:Nat} {caps:List AV} {a b:AV} (h:L n (.clo c caps) [a,b] k σ (fun v k' σ'=>Q v k' (restr k σ')) (fun v k' σ'=>Q v k' (restr k σ'))):L (n+1) (.fn 34) [.clo c caps,.lst [a,b]] k σ Q X:=run_fn (fn:=fn34) rfl rfl rfl h
theorem w34_3 {c:Nat} {caps:List AV} {a b d:AV} (h:L n (.clo c caps) [a,b,d] k σ (fun v k' σ'=>Q v k' (restr k σ')) (fun v k' σ'=>Q v k' (restr k σ'))):L (n+1) (.fn 34) [.clo c caps,.lst [a,b,d]] k σ Q X:=run_fn (fn:=fn34) rfl rfl rfl h
theorem w33 (R:Rel most σ k p l) (O:Ok p) (S:Sim p l)
  (hh:∀ i,fnd l.acc l.prs j l.stk.reverse=.hit i->∀ k' σ',Still k σ k' σ'->Q (.int i) k' σ')
  (hm:fnd l.acc l.prs j l.stk.reverse=.miss->∀ k' σ',Still k σ k' σ'->Q .none k' σ')
  (hb:fnd l.acc l.prs j l.stk.reverse=.bad->∀ k' σ',Still k σ k' σ'->Q (.int (-1)) k' σ') :
  L (n+1) (.fn 33) [.cell 21,.int (j:Int)] k σ Q X:=by
 have hl:l.stk.length<=6:=S.stk▸O.len.2
 refine eX1 R.state fun ep he=>?_
 refine run_fn (fn:=fn33) rfl rfl rfl (onD he (fewM 6 hl rfl ?_))
 rw [<- List.map_reverse]
 refine fewM 6 (nA (nG List.length_reverse) hl) rfl (for_rest (fun r vars k' σ'=>∃ a,(∀ x∈r,x < 5)/\vars=[some (.cell 21),some (.int (j:Int)),a]/\Still k σ k' σ'/\fnd l.acc l.prs j r=fnd l.acc l.prs j l.stk.reverse)
  (fun uu uu uu uu uu=>trivial) (fun t r vars k' σ' hJ=>?_) (fun vars k' σ' hJ=>?_) l.stk.reverse ⟨none,fun x hx=>O.stk x (S.stk▸List.mem_reverse.mp hx),rfl,Still.refl k σ,rfl⟩)
 ·refine eX1 hJ fun a qA9=>eD4 qA9 fun hr e St hf=>?_
  subst e
  have ht:t < 5:=hr t (.head _)
  have R1:=R.still St
  refine eX1 R1.state fun ep1 he1=>?_
  have F:Fine (l.prs t):=S.prs▸O.prs t
  refine ⟨_,rfl,fun N' hN'=>onD he1 (onL R1.accs (idx5 ht (cD (fun ha=>?_) fun ha=>onD he1 (onL R1.prss (idx5 ht (keys_in F (fun uu uu uu uu uu h=>h) (fun uu uu uu uu h=>h) (okI (inAs_keys j _) ?_)))))))⟩
  ·exact hb (hf.symm.trans (fnd_bad ha)) _ _ St.restr
  ·cases e:lk (l.prs t) j with
   | none=>exact hN' _ _ _ ⟨_,fun x hx=>hr x (.tail _ hx),rfl,St,(fnd_none ha e).symm.trans hf⟩
   | some v=>exact hh t (hf.symm.trans (fnd_some ha e)) _ _ St.restr
 ·refine eX1 hJ fun a qA11=>eD4 qA11 fun hr e St hf=>?_
  subst e
  exact hm hf.symm _ _ St.restr
noncomputable def ifsE:E->E
 | .comp _ _ _ _ c _ _=>c
 | e=>e
noncomputable def argE:E->E
 | .call _ (.cons a _)=>a
 | e=>e
theorem name_ok {cw:AV->List AV->Nat->Store->PostV->PostV->Prop} {v:Int} {y:Option AV} {Qb:Bool->Nat->Store->Prop} (hj:j < 4):Qb ((nameB j).map AV.bytes).isSome k σ->bopW cw (ifsE (argE (retE b41))) .And [none,some (.int (j:Int)),some (.int v),y] k σ (fun a k σ=>truthW a fun b=>Qb b k σ) f3 :=
 four (C:=fun j=>Qb ((nameB j).map AV.bytes).isSome k σ->bopW cw (ifsE (argE (retE b41))) .And [none,some (.int (j:Int)),some (.int v),y] k σ (fun a k σ=>truthW a fun b=>Qb b k σ) f3) id id id id hj
theorem name_elt {cw:AV->List AV->Nat->Store->PostV->PostV->Prop} {v:Int} {y:Option AV} (hj:j < 4):∀ a,(nameB j).map AV.bytes=some a->Q a k σ->evW cw (eltE (argE (retE b41))) [none,some (.int (j:Int)),some (.int v),y] k σ Q f3 :=
 four (C:=fun j=>∀ a,(nameB j).map AV.bytes=some a->Q a k σ->evW cw (eltE (argE (retE b41))) [none,some (.int (j:Int)),some (.int v),y] k σ Q f3) (fun uu e h=>(congrArg (fun a=>Q a k σ) (oJ e)).mpr h) (fun uu e h=>(congrArg (fun a=>Q a k σ) (oJ e)).mpr h) (fun uu e h=>(congrArg (fun a=>Q a k σ) (oJ e)).mpr h) nofun hj
theorem names_map (r:Prs):(r.filterMap fun q=>(nameB q.1).map AV.bytes)=(namesOf r).map .bytes:=List.map_filterMap.symm
theorem w41 (R:Rel most σ k p l) (O:Ok p) (S:Sim p l) (hi:i < 5) (h:∀ k' σ',Still k σ k' σ'->Q (.lst ((sortB (namesOf (l.prs i))).map .bytes)) k' σ'):L (n+1) (.fn 41) [.cell 21,.int (i:Int)] k σ Q X:=by
 have F:Fine (l.prs i):=S.prs▸O.prs i
 refine eX1 R.state fun ep he=>?_
 refine run_fn (fn:=fn41) rfl rfl rfl (onD he (onL R.prss (idx5 hi (fewM 4 F.length rfl (comp_map (fun vars=>∃ x y z,vars=[none,x,y,z]) (fun k' σ'=>k'=k/\σ'=σ) (fun q:Nat×Int=>(nameB q.1).map AV.bytes) (fun uu uu uu=>trivial) ⟨none,none,none,rfl⟩ ⟨rfl,rfl⟩ (fun q hq vars hV=>?_) fun k' σ' hJ=>?_)))))
 ·refine eX3 hV fun x y z e=>?_
  subst e
  exact ⟨_,rfl,⟨_,_,_,rfl⟩,fun k' σ' hJ=>⟨fun Qb hQ=>name_ok (F.keys q hq).1 (hQ _ _ hJ),fun a ha Qe hQ=>name_elt (F.keys q hq).1 a ha (hQ _ _ hJ)⟩⟩
 ·refine eD2 hJ fun e1 e2=>?_
  subst e1 e2
  rw [names_map]
  exact (sortI (nA (namesOf_le _) (nA F.length (by decide))) (h _ _ (Still.refl k' σ').restr))
end
end B
namespace B
abbrev nz (i:Nat):AV:=.int (i:Int)
theorem o21 {σ:Store} {c:Cell} {j m:Nat} (hj:(Nat.blt j m||Nat.blt m j)=true):upd σ m c j=σ j:=upd_other _ _ fun e=>by
 subst e
 rcases Bool.or_eq_true_iff.mp hj with h | h <;> exact nT _ (nC h)
theorem b45 {i m:Nat} (h:i < 5) (hm:Nat.blt 18 m=true):(Nat.blt (4+3*i) m||Nat.blt m (4+3*i))=true/\(Nat.blt (5+3*i) m||Nat.blt m (5+3*i))=true:=by
 have hm:=nC hm
 exact ⟨Bool.or_eq_true_iff.mpr (.inl (nJ (by exact om6 h hm rfl))),Bool.or_eq_true_iff.mpr (.inl (nJ (by exact om6 h hm rfl)))⟩
theorem bth {m t:Nat} (h:23<=t) (hm:Nat.blt m 23=true):(Nat.blt t m||Nat.blt m t)=true:=Bool.or_eq_true_iff.mpr (.inr (nJ (nA (nC hm) h)))
noncomputable def thingsV:AV:=.lst ((List.range 5).map dthing)
section
variable {most:Int} {n i j t:Nat} {σ:Store} {k:Nat} {p:PS} {l:LS} {Q X:PostV}
theorem Rel.lawStack (R:Rel most σ k p l) {s:List Nat} {vs:List AV} (e:vs=s.map nz) (ep:Nat):Rel most (upd σ 21 (.dict 2 (dput (stateE most l) (.str sStack) (.lst vs)) ep)) k p { l with stk:=s }:=by
 subst e
 exact ⟨R.low,(o21 rfl).trans R.well,(o21 rfl).trans R.lim,(o21 rfl).trans R.mem,R.made.imp fun uu e=>(o21 rfl).trans e,fun i hi=>(o21 (b45 hi rfl).1).trans (R.body i hi),fun i hi=>(R.ent i hi).imp fun uu e=>(o21 (b45 hi rfl).2).trans e,
  (o21 rfl).trans R.accs,(o21 rfl).trans R.prss,⟨ep,upd_same _ _ _⟩,(o21 rfl).trans R.stack,(o21 (bth R.th1 rfl)).trans R.thin,R.th1,R.th2⟩
theorem Rel.lawAcc (R:Rel most σ k p l) {f:Nat->Int} {vs:List AV} (e:vs=(List.range 5).map fun i=>.int (f i)):Rel most (upd σ 19 (.list vs)) k p { l with acc:=f }:=by
 subst e
 exact ⟨R.low,(o21 rfl).trans R.well,(o21 rfl).trans R.lim,(o21 rfl).trans R.mem,R.made.imp fun uu e=>(o21 rfl).trans e,fun i hi=>(o21 (b45 hi rfl).1).trans (R.body i hi),fun i hi=>(R.ent i hi).imp fun uu e=>(o21 (b45 hi rfl).2).trans e,
  upd_same _ _ _,(o21 rfl).trans R.prss,R.state.imp fun uu e=>(o21 rfl).trans e,(o21 rfl).trans R.stack,(o21 (bth R.th1 rfl)).trans R.thin,R.th1,R.th2⟩
theorem Rel.lawPrs (R:Rel most σ k p l) {f:Nat->Prs} {vs:List AV} (e:vs=(List.range 5).map fun i=>.lst ((f i).map pairV)):Rel most (upd σ 20 (.list vs)) k p { l with prs:=f }:=by
 subst e
 exact ⟨R.low,(o21 rfl).trans R.well,(o21 rfl).trans R.lim,(o21 rfl).trans R.mem,R.made.imp fun uu e=>(o21 rfl).trans e,fun i hi=>(o21 (b45 hi rfl).1).trans (R.body i hi),fun i hi=>(R.ent i hi).imp fun uu e=>(o21 (b45 hi rfl).2).trans e,
  (o21 rfl).trans R.accs,upd_same _ _ _,R.state.imp fun uu e=>(o21 rfl).trans e,(o21 rfl).trans R.stack,(o21 (bth R.th1 rfl)).trans R.thin,R.th1,R.th2⟩
theorem set_prs (f:Nat->Prs) {t:Nat} (ht:t < 5) (q:Prs):((List.range 5).map fun i=>AV.lst ((f i).map pairV)).set ((t:Int)).toNat (.lst (q.map pairV))=(List.range 5).map fun i=>AV.lst ((set1 f t q i).map pairV):=by
 have h:=set5 ht (fun i=>AV.lst ((f i).map pairV)) (fun i=>AV.lst ((set1 f t q i).map pairV)) fun j hj=>by rw [set1_other _ _ hj]
 rw [set1_same] at h
 exact h
theorem set_acc (f:Nat->Int) {t:Nat} (ht:t < 5) (a:Int):((List.range 5).map fun i=>AV.int (f i)).set ((t:Int)).toNat (.int a)=(List.range 5).map fun i=>AV.int (set1 f t a i):=by
 have h:=set5 ht (fun i=>AV.int (f i)) (fun i=>AV.int (set1 f t a i)) fun j hj=>by rw [set1_other _ _ hj]
 rw [set1_same] at h
 exact h
theorem put5 {c t:Nat} {f:Nat->AV} {v:AV} {C:Store->Prop} (hc:σ c=some (.list ((List.range 5).map f))) (ht:t < 5) (h:C (upd σ c (.list (((List.range 5).map f).set ((t:Int)).toNat v)))):storeSub (.cell c) (.int (t:Int)) v σ C :=
 onL hc (cT rfl (and3 (Int.natCast_nonneg t) (by rw [nY,List.length_range];exact Int.ofNat_lt.mpr ht) h))
theorem isA {c:Nat} {e:Cell} {C:Bool->Prop} (h:σ c=some e) (q:C true):(σ c).isSome=true/\(σ c).isSome=true/\C (decide (c=c)):=⟨h▸rfl,h▸rfl,by rw [decide_eq_true rfl];exact q⟩
noncomputable def Done (most:Int) (l:LS) (k:Nat) (Q:PostV):Prop:=∀ k' σ' p' l',k<=k'->Rel most σ' k' p' l'->Ok p'->Sim p' l'->l'.nums=l.nums->l'.pos=l.pos->l'.stir=l.stir->Q (.bool true) k' σ'
theorem w35 (R:Rel most σ k p l) (O:Ok p) (S:Sim p l) (hm:most<=6) (hi:i < 5) (h:Done most l k Q):L (n+7) (.fn 35) [.cell 21,.cell 22,thingsV,.int (i:Int)] k σ Q X:=by
 have hls:l.stk.length<=6:=S.stk▸O.len.2
 refine run_fn (fn:=fn35) rfl rfl rfl (idx5 hi (w34_2 (run_clo (lm:=lm0) rfl rfl (onI R.stack (w55 R O hm hi (fun ha hlt k1 σ1 hk1 R1 O1=>?_) (fun ha k1 σ1 hk1 R1=>?_) fun ha hlt k1 σ1 hk1 R1=>?_)))))
 ·have R2:=R1.restr k R.low R.th2
  refine eX1 R2.state fun ep he=>?_
  rw [S.acc] at ha
  rw [S.stk] at hlt
  refine onD he (onL R2.accs (idx5 hi (dF (Int.not_lt.mpr ha) (onD he (fewM 6 hls rfl (onD he (dF (by rw [nY];exact om45 hlt) (onD he (fewM 6 hls rfl (onD he fun ep2=>?_))))))))))
  exact h _ _ _ _ hk1 ((R2.lawStack (s:=l.stk ++ [i]) (List.map_append (f:=nz) (l₁:=l.stk) (l₂:=[i])).symm ep2).restr k R.low R.th2) O1 ⟨congrArg (· ++ [i]) S.stk,S.acc,S.prs⟩ rfl rfl rfl
 ·have R2:=R1.restr k R.low R.th2
  refine eX1 R2.state fun ep he=>?_
  rw [S.acc] at ha
  exact onD he (onL R2.accs (idx5 hi (dT (Int.not_le.mp ha) (h _ _ _ _ hk1 (R2.restr k R.low R.th2) O S rfl rfl rfl))))
 ·have R2:=R1.restr k R.low R.th2
  refine eX1 R2.state fun ep he=>?_
  rw [S.acc] at ha
  rw [S.stk] at hlt
  exact onD he (onL R2.accs (idx5 hi (dF (Int.not_lt.mpr ha) (onD he (fewM 6 hls rfl (onD he (dT (by rw [nY];exact om46 hlt) (h _ _ _ _ hk1 (R2.restr k R.low R.th2) O S rfl rfl rfl))))))))
theorem w36 (R:Rel most σ k p l) (O:Ok p) (S:Sim p l) (h:Done most l k Q):L (n+4) (.fn 36) [.cell 21,.cell 22,thingsV] k σ Q X:=by
 have hls:l.stk.length<=6:=S.stk▸O.len.2
 refine run_fn (fn:=fn36) rfl rfl rfl (w34_2 (run_clo (lm:=lm1) rfl rfl (onI R.stack (w56 R O (fun t ht h3 k1 σ1 hk1 R1 O1=>?_) fun h3 k1 σ1 hk1 R1=>?_))))
 ·have R2:=R1.restr k R.low R.th2
  refine eX1 R2.state fun ep he=>?_
  have ht5:t < 5:=O.stk t (List.mem_of_getLast? ht)
  rw [S.stk] at ht h3
  refine onD he (fewM 6 hls rfl (dF (by rw [nY];exact om49 h3) (onD he (idxL ht (onD he (fewM 6 hls rfl (onD he fun ep2=>?_)))))))
  have R3:=R2.lawStack (s:=l.stk.dropLast) (List.map_dropLast (f:=nz) (l:=l.stk)).symm ep2
  exact idx5 ht5 (isA (C:=fun b=>Q (.bool b) k1 (restr k _)) (R3.body t ht5) (h _ _ _ _ hk1 (R3.restr k R.low R.th2) O1 ⟨congrArg List.dropLast S.stk,S.acc,S.prs⟩ rfl rfl rfl))
 ·have R2:=R1.restr k R.low R.th2
  refine eX1 R2.state fun ep he=>?_
  rw [S.stk] at h3
  exact onD he (fewM 6 hls rfl (dT (by rw [nY];exact om29 h3) (h _ _ _ _ hk1 (R2.restr k R.low R.th2) O S rfl rfl rfl)))
theorem tail37 (R:Rel most σ k p l) (F:Fine (l.prs t)) (ht:t < 5) (ha:l.acc t=3) {v:Int} {fv pv bv:AV} {N:PostN} {RR XX:PostV}
  (h:∀ k' σ',k<=k'->Rel most σ' k' p { l with prs:=set1 l.prs t (put (l.prs t) j v) }->RR (.bool true) k' σ') :
  exW (L (n+1)) (sDrop 4 b37) [some (.cell 21),some (.cell 22),some (.cell 2),some (.int (j:Int)),some (.int v),some bv,some fv,some (.int (t:Int)),some pv,some .none,none,none,none,none,none,none,none] k σ N RR XX:=by
 refine eX1 R.state fun ep he=>?_
 refine onD he (onL R.accs (idx5 ht (dF (by exact om47 ha) (onD he (onL R.prss (idx5 ht (w32 F fun k1 σ1 S1=>?_)))))))
 have R1:=R.still S1
 refine eX1 R1.state fun ep1 he1=>?_
 exact onD he1 (put5 R1.prss ht (h _ _ S1.1 (R1.lawPrs (set_prs l.prs ht _))))
theorem tail37x (R:Rel most σ k p l) (ht:t < 5) (ha:¬ l.acc t=3) (ha3:l.acc t<=3) {fv pv bv jv vv:AV} {N:PostN} {RR XX:PostV} (h:RR (.bool true) k σ) :
  exW (L n) (sDrop 4 b37) [some (.cell 21),some (.cell 22),some (.cell 2),some jv,some vv,some bv,some fv,some (.int (t:Int)),some pv,some bInv,none,none,none,none,none,none,none] k σ N RR XX :=
 R.state.elim fun ep he=>onD he (onL R.accs (idx5 ht (dT (by exact om48 ha ha3) h)))
theorem tail37b {fv pv bv jv vv:AV} {N:PostN} {RR XX:PostV} (h:RR (.bool true) k σ) :
  exW (L n) (sDrop 4 b37) [some (.cell 21),some (.cell 22),some (.cell 2),some jv,some vv,some bv,some fv,some (.int (-1)),some pv,some bInv,none,none,none,none,none,none,none] k σ N RR XX:=h
end
end B
namespace B
section
variable {most:Int} {n i j t:Nat} {σ:Store} {k:Nat} {p:PS} {l:LS} {Q X:PostV}
theorem Sim.put (S:Sim p l) (t:Nat) (g:Prs->Prs) {m:Nat->Int} {th:Nat}:Sim { p with prs:=set1 p.prs t (g (p.prs t)),mst:=m,th:=th } { l with prs:=set1 l.prs t (g (l.prs t)) }:=⟨S.stk,S.acc,congrArg (fun f=>set1 f t (g (f t))) S.prs⟩
theorem w37d (R:Rel most σ k p l) (O:Ok p) (S:Sim p l) (hj:j < 4) {v:Int} (h0:0<=v) (h6:v < 6) (h:Done most l k Q):L (n+9) (.fn 37) [.cell 21,.cell 22,.cell 2,.int (j:Int),.int v,.bool false] k σ Q X:=by
 refine eX1 O.last fun t qA0=>eD2 qA0 fun ht ht5=>?_
 refine eX1 R.state fun ep he=>?_
 refine run_fn (fn:=fn37) rfl rfl rfl (onD he (idxL (S.stk▸ht) (w29 hj fun k1 σ1 S1=>w0 fun k2 σ2 S2=>?_)))
 have S3:=S1.trans S2
 have R2:=R.still S3
 refine w34_3 (run_clo (lm:=lm3) rfl rfl (onI R2.stack (w61 R2 O ht hj h0 h6 (fun ha k3 σ3 m hk3 R3 O3=>?_) fun ha k3 σ3 hk3 R3=>?_)))
 ·exact tail37 (n:=n+7) (R3.restr k2 R2.low R2.th2) (S.prs▸O.prs t) ht5 (S.acc▸ha) fun k4 σ4 hk4 R4=>h _ _ _ _ (nA (nA S3.1 hk3) hk4) (R4.restr k R.low R.th2) O3 (S.put t (put · j v)) rfl rfl rfl
 ·have R4:=R3.restr k2 R2.low R2.th2
  exact tail37x R4 ht5 (S.acc▸ha) (S.acc▸(O.acc t).2) (h _ _ _ _ (nA S3.1 hk3) (R4.restr k R.low R.th2) O S rfl rfl rfl)
inductive Hit (p:PS) (j:Nat):AV->Prop where
 | at (t:Nat) (ht:t < 5) (h:∀ u,(fnd p.acc p.prs j p.stk.reverse=.hit u∨(fnd p.acc p.prs j p.stk.reverse=.miss/\p.stk.getLast?=some u))->u=t) (hn:fnd p.acc p.prs j p.stk.reverse≠.bad):Hit p j (.int (t:Int))
 | no (h:fnd p.acc p.prs j p.stk.reverse=.bad):Hit p j (.int (-1))
theorem mid37 (R:Rel most σ k p l) (O:Ok p) (S:Sim p l) (hj:j < 4) {v:Int} (h0:0<=v) (h6:v < 6) {k₀:Nat} (hk:k₀<=k) (hk₀:24<=k₀) (hth:p.th < k₀) (h:Done most l k₀ Q) {w fv:AV} (hw:Hit p j w) {N:PostN} {XX:PostV} :
  exW (L (n+8)) (sDrop 2 b37) [some (.cell 21),some (.cell 22),some (.cell 2),some (.int (j:Int)),some (.int v),some (.bool true),some fv,some w,none,none,none,none,none,none,none,none,none] k σ N (fun v k' σ'=>Q v k' (restr k₀ σ')) XX:=by
 refine w29 hj fun k2 σ2 S2=>w0 fun k3 σ3 S3=>?_
 have St:=S2.trans S3
 have R3:=R.still St
 refine w34_3 (run_clo (lm:=lm2) rfl rfl (onI R3.stack (w62 R3 O hj h0 h6 (fun u hu ha k4 σ4 m hk4 R4 O4=>?_) (fun u hu ha k4 σ4 hk4 R4=>?_) fun hb k4 σ4 hk4 R4=>?_)))
 ·have hkk:=nA hk (nA St.1 hk4)
  cases hw with
  | «at» t ht5 hut hn =>
   have e:=hut u hu
   subst e
   exact tail37 (n:=n+7) (R4.restr k3 R3.low R3.th2) (S.prs▸O.prs u) ht5 (S.acc▸ha) fun k5 σ5 hk5 R5=>h _ _ _ _ (nA hkk hk5) (R5.restr k₀ hk₀ hth) O4 (S.put u (put · j v)) rfl rfl rfl
  | no hb=>exact hu.elim (fun e=>nomatch hb.symm.trans e) fun e=>nomatch hb.symm.trans e.1
 ·have hkk:=nA hk (nA St.1 hk4)
  have R5:=R4.restr k3 R3.low R3.th2
  cases hw with
  | «at» t ht5 hut hn =>
   have e:=hut u hu
   subst e
   exact tail37x R5 ht5 (S.acc▸ha) (S.acc▸(O.acc u).2) (h _ _ _ _ hkk (R5.restr k₀ hk₀ hth) O S rfl rfl rfl)
  | no hb=>exact hu.elim (fun e=>nomatch hb.symm.trans e) fun e=>nomatch hb.symm.trans e.1
 ·have R5:=R4.restr k3 R3.low R3.th2
  cases hw with
  | «at» t ht5 hut hn=>exact absurd hb hn
  | no _=>exact tail37b (h _ _ _ _ (nA hk (nA St.1 hk4)) (R5.restr k₀ hk₀ hth) O S rfl rfl rfl)
theorem Sim.fnd (S:Sim p l) (j:Nat):fnd l.acc l.prs j l.stk.reverse=Mine.B.fnd p.acc p.prs j p.stk.reverse:=by rw [S.acc,S.prs,S.stk]
theorem w37s (R:Rel most σ k p l) (O:Ok p) (S:Sim p l) (hj:j < 4) {v:Int} (h0:0<=v) (h6:v < 6) (h:Done most l k Q):L (n+9) (.fn 37) [.cell 21,.cell 22,.cell 2,.int (j:Int),.int v,.bool true] k σ Q X:=by
 refine run_fn (fn:=fn37) rfl rfl rfl (w33 R O S (fun i e1 k1 σ1 S1=>?_) (fun e1 k1 σ1 S1=>?_) fun e1 k1 σ1 S1=>?_)
 ·rw [S.fnd] at e1
  exact mid37 (R.still S1) O S hj h0 h6 S1.1 R.low R.th2 h (.at i (O.stk i (List.mem_reverse.mp (fnd_hit e1).1)) (fun u hu=>hu.elim (fun e=>hit_inj (e.symm.trans e1)) fun e=>nomatch e.1.symm.trans e1) fun e=>nomatch e.symm.trans e1)
 ·rw [S.fnd] at e1
  refine eX1 O.last fun t qA2=>eD2 qA2 fun ht ht5=>?_
  refine eX1 ((R.still S1).state) fun ep he=>?_
  exact onD he (idxL (S.stk▸ht) (mid37 (R.still S1) O S hj h0 h6 S1.1 R.low R.th2 h (.at t ht5 (fun u hu=>hu.elim (fun e=>nomatch e.symm.trans e1) fun e=>oJ (e.2.symm.trans ht)) fun e=>nomatch e.symm.trans e1)))
 ·rw [S.fnd] at e1
  exact mid37 (R.still S1) O S hj h0 h6 S1.1 R.low R.th2 h (.no e1)
theorem fine_all {r:Prs}:∀ {l:Prs},Fine l->(∀ q∈r,q.1 < 4/\0<=q.2/\q.2 < 6)->Fine (putAll l r):=go r
where
 go:∀ (r:Prs) {l:Prs},Fine l->(∀ q∈r,q.1 < 4/\0<=q.2/\q.2 < 6)->Fine (putAll l r)
  | [],_,h,_=>h
  | q :: r,_,h,hr=>go r (h.put (hr q (.head _)).1 (hr q (.head _)).2.1 (hr q (.head _)).2.2) fun x hx=>hr x (.tail _ hx)
theorem w38 (R:Rel most σ k p l) (O:Ok p) (S:Sim p l) (hi:i < 5) (ht:t < 5) (hne:i≠t) (h:Done most l k Q):L (n+10) (.fn 38) [.cell 21,.cell 2,thingsV,.int (i:Int),.int (t:Int)] k σ Q X:=by
 refine run_fn (fn:=fn38) rfl rfl rfl (idx5 hi (idx5 ht (w34_3 (run_clo (lm:=lm4) rfl rfl (w21 R O hi ht hne (fun h1 h2 k1 σ1 m hk1 R1 O1=>?_) fun hx k1 σ1 hk1 R1=>?_)))))
 ·have R2:=R1.restr k R.low R.th2
  rw [S.acc] at h1 h2
  refine eX1 R2.state fun ep he=>?_
  have Fi:Fine (l.prs i):=S.prs▸O.prs i
  have Ft:Fine (l.prs t):=S.prs▸O.prs t
  refine onD he (onL R2.accs (idx5 hi (dF (by exact om44 h1) (onD he (onL R2.accs (idx5 ht (dF (by exact om47 h2) (onD he (onL R2.prss (idx5 hi (fewM 4 Fi.length rfl (fewM 4 Fi.length rfl (for_map (fun d vars k' σ'=>∃ a b,vars=[some (.cell 21),some (.cell 2),some thingsV,some (.int (i:Int)),some (.int (t:Int)),some (dthing t),a,b,none,none,none,none,none]/\k1<=k' /\
    Rel most σ' k' { p with prs:=set1 p.prs t (putAll (p.prs t) (p.prs i)),mst:=m } { l with prs:=set1 l.prs t (putAll (l.prs t) d) })
   (fun uu uu uu uu uu=>trivial) (fun d q r e vars k' σ' hJ=>?_) (fun vars k' σ' hJ=>?_) ⟨none,none,rfl,nB _,?_⟩)))))))))))))
  ·refine eX2 hJ fun a b qA5=>eD3 qA5 fun e1 hle R3=>?_
   subst e1
   have Fd:Fine (set1 l.prs t (putAll (l.prs t) d) t):=set1_same l.prs t _▸fine_all Ft fun x hx=>Fi.keys x (e▸List.mem_append_left _ hx)
   refine eX1 R3.state fun ep3 he3=>?_
   refine ⟨_,rfl,fun N' hN'=>onD he3 (onL R3.prss (idx5 ht (w32 Fd fun k4 σ4 S4=>?_)))⟩
   have R4:=R3.still S4
   refine eX1 R4.state fun ep4 he4=>?_
   exact onD he4 (put5 R4.prss ht (hN' _ _ _ ⟨_,_,rfl,nA hle S4.1,put_next l.prs t d q▸R4.lawPrs (set_prs (set1 l.prs t (putAll (l.prs t) d)) ht _)⟩))
  ·refine eX2 hJ fun a b qA8=>eD3 qA8 fun e1 hle R3=>?_
   subst e1
   refine idx5 ht (isA (C:=fun b=>Q (.bool b) k' (restr k _)) (R3.body t ht) (h _ _ _ _ (nA hk1 hle) (R3.restr k R.low R.th2) O1 ⟨S.stk,S.acc,?_⟩ rfl rfl rfl))
   show set1 p.prs t (putAll (p.prs t) (p.prs i))=set1 l.prs t (putAll (l.prs t) (l.prs i))
   rw [S.prs]
  ·rw [show putAll (l.prs t) []=l.prs t from rfl,set1_self];exact R2
 ·have R2:=R1.restr k R.low R.th2
  rw [S.acc] at hx
  have at':=S.acc▸(O.acc t).2
  have fin:=h _ _ _ _ hk1 (R2.restr k R.low R.th2) O S rfl rfl rfl
  refine eX1 R2.state fun ep he=>?_
  exact onD he (onL R2.accs (idx5 hi (cD (fun h1=>dT h1 fin) fun h1=>onD he (onL R2.accs (idx5 ht (dT (by exact Int.lt_iff_le_and_ne.mpr ⟨at',fun e=>hx ⟨Int.not_lt.mp h1,e⟩⟩) fin))))))
end
end B
namespace B
theorem fmod_nat {a:Int} {m:Nat} (ha:0<=a) (hm:0 < m):∃ r:Nat,Int.fmod a (m:Int)=(r:Int)/\r < m:=by
 have h:=fmodB (x:=a) (y:=(m:Int)) (Int.ofNat_lt.mpr hm)
 exact ⟨(Int.fmod a (m:Int)).toNat,(Int.toNat_of_nonneg h.1).symm,by exact om91 h⟩
theorem fdiv_nat {a:Int} {m:Nat} (ha:0<=a):∃ r:Nat,Int.fdiv a (m:Int)=(r:Int):=by
 rw [Int.fdiv_eq_ediv_of_nonneg a (Int.natCast_nonneg m)]
 exact ⟨(a / (m:Int)).toNat,(Int.toNat_of_nonneg (Int.ediv_nonneg ha (Int.natCast_nonneg m))).symm⟩
noncomputable def pickP (j:Nat) (q:Nat×Int):Option AV:=cond (decide ((q.1:Int)=(j:Int))) none (some (pairV q))
theorem pickP_no {j:Nat} {q:Nat×Int} (h:q.1≠j):pickP j q=some (pairV q):=by unfold pickP;rw [decide_eq_false (by exact om30 h)];rfl
theorem rem_pick {j:Nat}:∀ {l:Prs},Fine l->l.filterMap (pickP j)=(rem l j).map pairV
 | [],_=>rfl
 | q :: r,F=>beq_e (a:=q.1) (b:=j) (C:=fun b=>(q :: r).filterMap (pickP j)=(cond b r (q :: rem r j)).map pairV)
   (fun e=>(List.filterMap_cons_none (by unfold pickP;rw [decide_eq_true (by exact om29 e)];rfl)).trans (all r fun x hx e'=>(nB1.mp F.nd).1 (List.mem_map.mpr ⟨x,hx,e'.trans e.symm⟩)))
   fun n=>(List.filterMap_cons_some (pickP_no n)).trans (congrArg (pairV q :: ·) (rem_pick F.tail))
where
 all:∀ r:Prs,(∀ x∈r,x.1≠j)->r.filterMap (pickP j)=r.map pairV
  | [],_=>rfl
  | x :: r,h=>(List.filterMap_cons_some (pickP_no (h x (.head _)))).trans (congrArg (pairV x :: ·) (all r fun y hy=>h y (.tail _ hy)))
theorem nine {C:Nat->Prop} (h0:C 0) (h1:C 1) (h2:C 2) (h3:C 3) (h4:C 4) (h5:C 5) (h6:C 6) (h7:C 7) (h8:C 8):∀ {d:Nat},d < 9->C d
 | 0,_=>h0
 | 1,_=>h1
 | 2,_=>h2
 | 3,_=>h3
 | 4,_=>h4
 | 5,_=>h5
 | 6,_=>h6
 | 7,_=>h7
 | 8,_=>h8
noncomputable def vars39 (c:AV) (d r w nu va:Int):Vars:=[some (.cell 21),some (.cell 22),some (.cell 2),some thingsV,some c,some (.int d),some (.int r),some (.int w),some (.int nu),some (.int va),none,none,none,none,none,none,none,none,none,none]
section
variable {most:Int} {n i j t r w nu va:Nat} {σ:Store} {k:Nat} {p:PS} {l:LS} {Q X:PostV} {N:PostN} {c:AV}
theorem w38e (R:Rel most σ k p l) (O:Ok p) (S:Sim p l) (hi:i < 5) (ht:t < 5) (hne:i≠t) {tv:Int} (e:tv=(t:Int)) (h:Done most l k Q):L (n+10) (.fn 38) [.cell 21,.cell 2,thingsV,.int (i:Int),.int tv] k σ Q X:=by subst e;exact w38 R O S hi ht hne h
theorem deed5 (R:Rel most σ k p l) (O:Ok p) (S:Sim p l) (hw:w < 5) (h:Done most l k Q):exW (L (n+10)) (sDrop 2 b39) (vars39 c 5 r w nu va) k σ N Q X:=by
 obtain ⟨r5,e5⟩:=fdiv_nat (a:=(r:Int)) (m:=5) (Int.natCast_nonneg r)
 obtain ⟨tg,e6,b6⟩:=fmod_nat (a:=Int.fdiv (r:Int) ((5:Nat):Int)) (m:=5) (e5▸Int.natCast_nonneg r5) (by decide)
 obtain ⟨t',e7,b7⟩:=fmod_nat (a:=(w:Int)+1) (m:=5) (by exact om40) (by decide)
 have e6:Int.fmod (Int.fdiv (r:Int) 5) 5=(tg:Int):=e6
 have e7:Int.fmod ((w:Int)+1) 5=(t':Int):=e7
 refine and3 (by decide) (by decide) (And.intro (by decide) ((Decidable.em (Int.fmod (Int.fdiv (r:Int) 5) 5=(w:Int))).elim (fun e=>ndT e (smI (by exact om17 hw rfl) (smI (by decide) (And.intro (by decide) (w38e R O S hw b7 (fun q=>?_) e7 h))))) fun e=>ndF e (w38e R O S hw b6 (fun q=>e (e6.trans (congrArg Int.ofNat q.symm))) e6 h)))
 have m:=(Int.fmod_eq_emod_of_nonneg ((w:Int)+1) (show (0:Int)<=5 by decide)).symm.trans e7
 omega
theorem deed6 (R:Rel most σ k p l) (O:Ok p) (S:Sim p l) (hw:w < 5) (hnu:nu < 4) (hva:va < 6) (h:Done most l k Q):exW (L (n+10)) (sDrop 2 b39) (vars39 c 6 r w nu va) k σ N Q X:=by
 refine onI R.mem (idx5 hw (w29 hnu fun k1 σ1 S1=>w0 fun k2 σ2 S2=>w77 (n:=n+5) (R.still (S1.trans S2)) O hw hnu (v:=(va:Int)) (by exact om39) (by exact om37 hva) fun k3 σ3 m hk3 R3 O3=>?_))
 obtain ⟨ep,he⟩:=R3.state
 refine onD he (onL R3.prss (idx5 hw (w32 (S.prs▸O.prs w) fun k4 σ4 S4=>?_)))
 have R4:=R3.still S4
 obtain ⟨ep4,he4⟩:=R4.state
 exact onD he4 (put5 R4.prss hw (h _ _ _ _ (nA (S1.trans S2).1 (nA hk3 S4.1)) (R4.lawPrs (set_prs l.prs hw _)) O3 (S.put w (put · nu va)) rfl rfl rfl))
theorem deed7 (R:Rel most σ k p l) (O:Ok p) (S:Sim p l) (hw:w < 5) (hnu:nu < 4) (h:Done most l k Q):exW (L (n+10)) (sDrop 2 b39) (vars39 c 7 r w nu va) k σ N Q X:=by
 have F:Fine (l.prs w):=S.prs▸O.prs w
 refine onI R.mem (idx5 hw (w29 hnu fun k1 σ1 S1=>w78 (n:=n+6) (R.still S1) O hw hnu fun k3 σ3 hk3 R3 O3=>?_))
 obtain ⟨ep,he⟩:=R3.state
 refine onD he (onL R3.prss (idx5 hw (fewM 4 F.length rfl (comp_map (fun vars=>∃ x,vars=[none,x,some (.int (nu:Int))]) (fun k' σ'=>k'=k3/\σ'=σ3) (pickP nu) (fun uu uu uu=>trivial) ⟨none,rfl⟩ ⟨rfl,rfl⟩ (fun q hq vars hV=>?_) fun k' σ' hJ=>?_))))
 ·obtain ⟨x,e⟩:=hV
  subst e
  refine ⟨_,rfl,⟨_,rfl⟩,fun k' σ' hJ=>⟨fun Qb hq=>?_,fun a ha Qe hq=>?_⟩⟩
  ·have hq:=hq _ _ hJ
   unfold pickP at hq
   cases e:decide ((q.1:Int)=(nu:Int)) with
   | true=>rw [e] at hq;exact (show Qb (!decide ((q.1:Int)=(nu:Int))) k' σ' by rw [e];exact hq)
   | false=>rw [e] at hq;exact (show Qb (!decide ((q.1:Int)=(nu:Int))) k' σ' by rw [e];exact hq)
  ·unfold pickP at ha
   cases e:decide ((q.1:Int)=(nu:Int)) with
   | true=>rw [e] at ha;exact nomatch ha
   | false=>rw [e] at ha;exact oJ ha▸hq _ _ hJ
 ·obtain ⟨e1,e2⟩:=hJ
  subst e1 e2
  rw [rem_pick F]
  exact onD he (put5 R3.prss hw (h _ _ _ _ (nA S1.1 hk3) (R3.lawPrs (set_prs l.prs hw _)) O3 (S.put w (rem · nu)) rfl rfl rfl))
theorem deed8 (R:Rel most σ k p l) (O:Ok p) (S:Sim p l) (hw:w < 5) (h:Done most l k Q):exW (L (n+10)) (sDrop 2 b39) (vars39 c 8 r w nu va) k σ N Q X:=by
 refine And.intro (by decide) (cD (p:=Int.fmod (r:Int) 7=0) (fun uu=>?_) fun uu=>And.intro (by decide) (cD (p:=Int.fmod (r:Int) 3=0) (fun uu=>?_) fun uu=>h _ _ _ _ (nB _) R O S rfl rfl rfl))
 ·refine onI R.stack (w57 R O fun k1 σ1 th' hk1 R1 O1=>?_)
  obtain ⟨ep,he⟩:=R1.state
  exact onD he (fewM 6 (S.stk▸O.len.2) rfl (onD he fun ep2=>h _ _ _ _ hk1 (R1.lawStack (s:=l.stk.take 3) (List.map_take (f:=nz) (l:=l.stk) (i:=3)).symm ep2) O1 ⟨congrArg (List.take 3) S.stk,S.acc,S.prs⟩ rfl rfl rfl))
 ·obtain ⟨ep,he⟩:=R.state
  have aw:=O.acc w
  rw [S.acc] at aw
  have b:=fmodB (x:=(va:Int)) (y:=3) (by decide)
  refine onD he (onL R.accs (idx5 hw (And.intro (by decide) (smI (by exact om19 b rfl) (onI R.mem (idx5 hw (w79 (n:=n+7) R O hw (a:=min (l.acc w) (1+Int.fmod (va:Int) 3)) (by exact Int.le_min.mpr ⟨aw.1,Int.le_add_of_nonneg_right b.1⟩) (by rw [S.acc];exact om120) fun k1 σ1 hk1 R1 O1=>?_)))))))
  obtain ⟨ep1,he1⟩:=R1.state
  exact onD he1 (put5 R1.accs hw (h _ _ _ _ hk1 (R1.lawAcc (set_acc l.acc hw _)) O1 ⟨S.stk,congrArg (fun f=>set1 f w _) S.acc,S.prs⟩ rfl rfl rfl))
theorem tail39 (R:Rel most σ k p l) (O:Ok p) (S:Sim p l) (hm:most<=6) {d:Nat} (hd:d < 9) (hw:w < 5) (hnu:nu < 4) (hva:va < 6) {dv wv nv vv rv:Int} (e1:dv=(d:Int)) (er:rv=(r:Int)) (e2:wv=(w:Int)) (e3:nv=(nu:Int)) (e4:vv=(va:Int)) (h:Done most l k Q) :
  exW (L (n+10)) (sDrop 2 b39) (vars39 c dv rv wv nv vv) k σ N Q X:=by
 subst e1 er e2 e3 e4
 exact nine (C:=fun d=>exW (L (n+10)) (sDrop 2 b39) (vars39 c (d:Int) r w nu va) k σ N Q X) (w35 (n:=n+3) R O S hm hw h) (w35 (n:=n+3) R O S hm hw h) (w36 (n:=n+6) R O S h) (w37d (n:=n+1) R O S hnu (by exact om39) (by exact om37 hva) h) (w37s (n:=n+1) R O S hnu (by exact om39) (by exact om37 hva) h)
  (deed5 R O S hw h) (deed6 R O S hw hnu hva h) (deed7 R O S hw hnu h) (deed8 R O S hw h) hd
theorem w39 (R:Rel most σ k p l) (O:Ok p) (S:Sim p l) (hm:most<=6) {c:Int} (h0:0<=c) (h1:c < 1000003) (h:Done most l k Q):L (n+11) (.fn 39) [.cell 21,.cell 22,.cell 2,thingsV,.int c] k σ Q X:=by
 obtain ⟨d,e1,b1⟩:=fmod_nat (a:=c) (m:=9) h0 (by decide)
 obtain ⟨r,e2⟩:=fdiv_nat (a:=c) (m:=9) h0
 obtain ⟨w,e3,b3⟩:=fmod_nat (a:=(r:Int)) (m:=5) (Int.natCast_nonneg r) (by decide)
 obtain ⟨r5,e4⟩:=fdiv_nat (a:=(r:Int)) (m:=5) (Int.natCast_nonneg r)
 obtain ⟨nu,e5,b5⟩:=fmod_nat (a:=(r5:Int)) (m:=4) (Int.natCast_nonneg r5) (by decide)
 obtain ⟨r20,e6⟩:=fdiv_nat (a:=(r:Int)) (m:=20) (Int.natCast_nonneg r)
 obtain ⟨va,e7,b7⟩:=fmod_nat (a:=(r20:Int)) (m:=6) (Int.natCast_nonneg r20) (by decide)
 refine run_keep (fn:=fn39) rfl rfl rfl (And.intro (by decide) (and3 (by decide) (by decide) (And.intro (by decide) (and3 (by decide) (by decide) (And.intro (by decide) (and3 (by decide) (by decide) (And.intro (by decide) (tail39 (n:=n) R O S hm b1 b3 b5 b7 e1 e2 (e2▸e3) (e2▸e4▸e5) (e2▸e6▸e7) h))))))))
end
end B
namespace B
theorem rangeL_up (m:Nat):rangeL 0 (m:Int) 1=(List.range m).map nz:=by
 have e:(Builtin.Range.rangeSize 0 (m:Int) 1).toNat=m:=by
  unfold Builtin.Range.rangeSize
  rw [if_pos (by decide)]
  split
  ·show (((m:Int) - 0 - 1) / 1+1).toNat=m
   rw [Int.ediv_one];exact om121
  ·show 0=m
   omega
 unfold rangeL
 rw [e]
 exact List.map_congr_left fun i uu=>congrArg AV.int (by exact om135)
theorem rng_up {m:Nat} (h:m<=1000):rngB 0 (m:Int) 1=true:=by
 unfold rngB
 rw [show Nat.blt ((m:Nat):Int).natAbs 1000000000=true from nJ (by exact om51 h rfl)]
 rfl
theorem few_up {m:Nat} (h:m<=900) {P:Prop} (q:P):few (rangeL 0 (m:Int) 1) P:=fewI (by rw [rangeL_up,nY,List.length_range];exact om12 h rfl) q
theorem for_up {t:T} {body:Vars->Nat->Store->PostN->Prop} {N:PostN} {m:Nat} (J:Nat->Vars->Nat->Store->Prop)
  (hs:∀ i,i < m->∀ vars k σ,J i vars k σ->∃ vars',asT t (.int (i:Int)) vars=some vars'/\∀ N':PostN,(∀ vars k σ,J (i+1) vars k σ->N' vars k σ)->body vars' k σ N')
  (hN:∀ vars k σ,J m vars k σ->N vars k σ) {vars:Vars} {k:Nat} {σ:Store} (h:J 0 vars k σ):forW t body (fun uu=>True) (rangeL 0 (m:Int) 1) vars k σ N:=by
 rw [rangeL_up]
 refine for_map (f:=nz) (fun d vars k σ=>J d.length vars k σ) (fun uu uu uu uu uu=>trivial) (fun d x r e vars k σ h=>?_) (fun vars k σ h=>hN _ _ _ (List.length_range (n:=m)▸h)) h
 have hx:x=d.length/\x < m:=by
  have h1:=congrArg (fun s=>s[d.length]?) e
  have h2:(d ++ x :: r)[d.length]?=some x:=by rw [List.getElem?_append_right (nB _),Nat.sub_self];rfl
  have h3:(List.range m)[d.length]?=some x:=h1.trans h2
  have h4:=List.getElem?_eq_some_iff.mp h3
  have h5:=h4.2
  rw [List.getElem_range] at h5
  exact ⟨h5.symm,List.mem_range.mp (mid_mem e)⟩
 obtain ⟨rfl,hx⟩:=hx
 exact (hs d.length hx vars k σ h).imp fun vars' q=>⟨q.1,fun N' hN'=>q.2 N' fun vars k σ h=>hN' _ _ _ ((by rw [List.length_append];exact h:J (d ++ [d.length]).length vars k σ))⟩
noncomputable def pz:Nat×Int->AV×AV:=rowE nz .int
theorem kZ:∀ a b:Nat,keyEq (nz a) (nz b)=decide (a=b):=fun a b=>(decide_eq_decide.mpr (by exact om31):decide ((a:Int)=(b:Int))=decide (a=b))
theorem pairsAll_map:∀ r:Prs,pairsAll (r.map pairV)=some (r.map pz)
 | []=>rfl
 | q :: r=>congrArg (Option.map (pz q :: ·)) (pairsAll_map r)
noncomputable def dictE (r:Prs):List (AV×AV):=(r.map pz).foldl (fun es p=>dput es p.1 p.2) []
theorem lk_aget {j:Nat}:∀ l:Prs,aget l j=lk l j
 | []=>rfl
 | q :: r=>beq_e (a:=q.1) (b:=j) (C:=fun b=>cond (decide (q.1=j)) (some q.2) (aget r j)=cond b (some q.2) (lk r j)) (fun e=>by rw [decide_eq_true e];rfl) fun n=>by rw [decide_eq_false n];exact lk_aget r
theorem dput_new (l:Prs) (q:Nat×Int) (h:q.1 ∉ l.map (·.1)):dput (l.map pz) (pz q).1 (pz q).2=(l ++ [q]).map pz:=(dput_a kZ l).trans (congrArg (List.map pz) (go l h))
where
 go:∀ l:Prs,q.1 ∉ l.map (·.1)->aput l q.1 q.2=l ++ [q]
  | [],_=>rfl
  | x :: r,h=>by
   have h:q.1 ∉ x.1 :: r.map (fun y=>y.1):=h
   exact (congrArg (cond · _ _) (decide_eq_false fun e:x.1=q.1=>h (e▸.head _))).trans (congrArg (x :: ·) (go r fun q'=>h (.tail _ q')))
theorem dictE_eq {r:Prs} (F:Fine r):dictE r=r.map pz:=go r [] F.nd
where
 go:∀ r l:Prs,((l ++ r).map (·.1)).Nodup->(r.map pz).foldl (fun es p=>dput es p.1 p.2) (l.map pz)=(l ++ r).map pz
  | [],l,_=>by rw [List.append_nil];rfl
  | q :: r,l,hn=>by
   have hq:q.1 ∉ l.map (·.1):=fun hm=>by
    rw [List.map_append,List.nodup_append] at hn
    exact hn.2.2 _ hm _ (List.mem_cons_self ..) rfl
   have e:=go r (l ++ [q]) (by rw [List.append_assoc];exact hn)
   rw [List.append_assoc] at e
   show (r.map pz).foldl _ (dput (l.map pz) (pz q).1 (pz q).2)=_
   rw [dput_new l q hq]
   exact e
theorem dictE_get {r:Prs} (F:Fine r) (j:Nat):dget (dictE r) (.int (j:Int))=(lk r j).map .int:=by rw [dictE_eq F,<- lk_aget];exact dget_a (a:=j) kZ r
theorem allEq_map {α:Type} {f:AV->AV->Option Bool} {g:α->AV} (h:∀ a,f (g a) (g a)=some true):∀ l:List α,allEq f (l.map g) (l.map g)=some true
 | []=>rfl
 | a :: r=>by
  show (f (g a) (g a)).bind (fun x=>(allEq f (r.map g) (r.map g)).map fun y=>x&&y)=_
  rw [h a,allEq_map h r];rfl
theorem eq_lst {α:Type} {g:α->AV} (h:∀ a,eqA 2 (g a) (g a)=some true) (l:List α):eqA 3 (.lst (l.map g)) (.lst (l.map g))=some true:=by
 show cond (Nat.beq (l.map g).length (l.map g).length) (allEq (eqA 2) (l.map g) (l.map g)) (some false)=_
 rw [Nat.beq_refl]
 exact allEq_map h l
theorem decI {α:Type} [DecidableEq α] (a:α):decide (a=a)=true:=decide_eq_true rfl
theorem eq_int (i:Int):eqA 1 (.int i) (.int i)=some true:=congrArg some (decI i)
theorem kK:∀ m,eqA 1 (kKind m) (kKind m)=some true
 | 0=>rfl
 | 1=>rfl
 | 2=>rfl
 | _+3=>rfl
theorem kV:∀ m,eqA 1 (kVal m) (kVal m)=some true
 | 0=>rfl
 | 1=>rfl
 | 2=>rfl
 | _+3=>rfl
theorem eq_told (r:Prs):eqA 3 (.lst (r.map toldV)) (.lst (r.map toldV))=some true:=eq_lst (fun q=>by
 have t:∀ a b:AV,eqA 1 a a=some true->eqA 1 b b=some true->eqA 2 (.tup [a,b,.str sInt,.int q.2]) (.tup [a,b,.str sInt,.int q.2])=some true:=fun a b ha hb=>by
  show (eqA 1 a a).bind (fun x=>((eqA 1 b b).bind fun x=>((eqA 1 (.str sInt) (.str sInt)).bind fun x=>((eqA 1 (.int q.2) (.int q.2)).bind fun x=>(some true).map fun y=>x&&y).map fun y=>x&&y).map fun y=>x&&y).map fun y=>x&&y)=_
  rw [ha,hb,eq_int];rfl
 exact t _ _ (kK q.1) (kV q.1)) r
theorem eq_names (l:Bs):eqA 3 (.lst (l.map .bytes)) (.lst (l.map .bytes))=some true:=eq_lst (g:=.bytes) (fun b=>congrArg some (decI b)) l
theorem eq_four {v:Int} {P Q:Prop} (h:Q):cond (!(true&&(decide (v=v)&&(true&&(decide (v=v)&&true))))) P Q:=by rw [decI];exact h
inductive Res (p:PS) (j:Nat):AV->AV->AV->AV->Prop where
 | hit (i:Nat) (v:Int) (hf:fnd p.acc p.prs j p.stk.reverse=.hit i) (hl:lk (p.prs i) j=some v):Res p j (.int (i:Int)) (.tup [.cell (4+3*i),vthing v]) (dthing i) (vthing v)
 | miss (hf:fnd p.acc p.prs j p.stk.reverse=.miss):Res p j .none .none .none bUndef
 | bad (hf:fnd p.acc p.prs j p.stk.reverse=.bad):Res p j (.int (-1)) bInv bInv bInv
theorem res_ex (p:PS) (j:Nat):∃ a b c d,Res p j a b c d:=by
 cases e:fnd p.acc p.prs j p.stk.reverse with
 | bad=>exact ⟨_,_,_,_,.bad e⟩
 | miss=>exact ⟨_,_,_,_,.miss e⟩
 | hit i=>exact (Option.isSome_iff_exists.mp (fnd_hit e).2.1).elim fun v hv=>⟨_,_,_,_,.hit i v e hv⟩
section
variable {most:Int} {n i j t:Nat} {σ:Store} {k:Nat} {p:PS} {l:LS} {Q X P:PostV} {a b c d:AV}
theorem w33r (R:Rel most σ k p l) (O:Ok p) (S:Sim p l) (h:Res p j a b c d) (hq:∀ k' σ',Still k σ k' σ'->Q a k' σ'):L (n+1) (.fn 33) [.cell 21,.int (j:Int)] k σ Q X:=by
 cases h with
 | hit i v hf hl=>exact w33 R O S (fun i' e=>hit_inj (hf.symm.trans ((S.fnd j).symm.trans e))▸hq) (fun e=>nomatch hf.symm.trans ((S.fnd j).symm.trans e)) fun e=>nomatch hf.symm.trans ((S.fnd j).symm.trans e)
 | miss hf=>exact w33 R O S (fun i' e=>nomatch hf.symm.trans ((S.fnd j).symm.trans e)) (fun uu=>hq) fun e=>nomatch hf.symm.trans ((S.fnd j).symm.trans e)
 | bad hf=>exact w33 R O S (fun i' e=>nomatch hf.symm.trans ((S.fnd j).symm.trans e)) (fun e=>nomatch hf.symm.trans ((S.fnd j).symm.trans e)) fun uu=>hq
theorem w58r (R:Rel most σ k p l) (O:Ok p) (hj:j < 4) (h:Res p j a b c d) (hq:∀ k' σ',Still k σ k' σ'->P b k' σ'):L (n+1) (.fn 58) [.cell 22,kword j] k σ P P:=by
 cases h with
 | hit i v hf hl=>exact w58 R O hj (fun i' v' e e'=>by have q:=hit_inj (hf.symm.trans e);subst q;exact oJ (hl.symm.trans e')▸hq) (fun e=>nomatch hf.symm.trans e) fun e=>nomatch hf.symm.trans e
 | miss hf=>exact w58 R O hj (fun i' v' e=>nomatch hf.symm.trans e) (fun uu=>hq) fun e=>nomatch hf.symm.trans e
 | bad hf=>exact w58 R O hj (fun i' v' e=>nomatch hf.symm.trans e) (fun e=>nomatch hf.symm.trans e) fun uu=>hq
theorem w60r (R:Rel most σ k p l) (O:Ok p) (hj:j < 4) (h:Res p j a b c d) (hq:∀ k' σ',Still k σ k' σ'->P c k' σ'):L (n+4) (.fn 60) [.cell 22,kthing j] k σ P P:=by
 cases h with
 | hit i v hf hl=>exact w60 R O hj (fun i' e=>hit_inj (hf.symm.trans e)▸hq) (fun e=>nomatch hf.symm.trans e) fun e=>nomatch hf.symm.trans e
 | miss hf=>exact w60 R O hj (fun i' e=>nomatch hf.symm.trans e) (fun uu=>hq) fun e=>nomatch hf.symm.trans e
 | bad hf=>exact w60 R O hj (fun i' e=>nomatch hf.symm.trans e) (fun e=>nomatch hf.symm.trans e) fun uu=>hq
theorem w59r (R:Rel most σ k p l) (O:Ok p) (hj:j < 4) (h:Res p j a b c d) (hq:∀ k' σ',Still k σ k' σ'->P d k' σ'):L (n+4) (.fn 59) [.cell 22,kthing j] k σ P P:=by
 cases h with
 | hit i v hf hl=>exact w59 R O hj (fun i' v' e e'=>by have q:=hit_inj (hf.symm.trans e);subst q;exact oJ (hl.symm.trans e')▸hq) (fun e=>nomatch hf.symm.trans e) fun e=>nomatch hf.symm.trans e
 | miss hf=>exact w59 R O hj (fun i' v' e=>nomatch hf.symm.trans e) (fun uu=>hq) fun e=>nomatch hf.symm.trans e
 | bad hf=>exact w59 R O hj (fun i' v' e=>nomatch hf.symm.trans e) (fun e=>nomatch hf.symm.trans e) fun uu=>hq
theorem turn40 (R:Rel most σ k p l) (O:Ok p) (S:Sim p l) (hr:Res p j a b c d) {N:PostN} {RR XX:PostV} {x9:Option AV} {kv:AV}
  (h:∀ k' σ' x9,Still k σ k' σ'->N [some (.cell 21),some (.cell 22),some thingsV,some (.int (j:Int)),some a,some kv,some b,some c,some d,x9,none,none,none,none,none] k' σ') :
  exW (L n) (sDrop 4 (forB b40)) [some (.cell 21),some (.cell 22),some thingsV,some (.int (j:Int)),some a,some kv,some b,some c,some d,x9,none,none,none,none,none] k σ N RR XX:=by
 cases hr with
 | miss hf=>exact h _ _ _ (Still.refl k σ)
 | bad hf=>exact h _ _ _ (Still.refl k σ)
 | hit i v hf hl =>
  have hi:i < 5:=O.stk i (List.mem_reverse.mp (fnd_hit hf).1)
  obtain ⟨ep,he⟩:=R.state
  have F:Fine (l.prs i):=S.prs▸O.prs i
  have hv:lk (l.prs i) j=some v:=S.prs▸hl
  refine onD he (onL R.prss (idx5 hi (okI (pairsAll_map _) (fewM 4 F.length rfl fun ep7=>onD (upd_same _ _ _) (okI ((dictE_get F j).trans (congrArg (Option.map AV.int) hv)) ?_)))))
  have St:Still k σ (k+1) (upd σ k (.dict 0 (dictE (l.prs i)) ep7)):=⟨Nat.le_succ _,(Low.refl k σ).upd _ (nB _)⟩
  have b7:=(R.still St).body i hi
  refine idx5 hi (and3 (b7▸rfl) (b7▸rfl) ?_)
  rw [decI]
  refine idx5 hi (and3 (b7▸rfl) (b7▸rfl) ?_)
  rw [decI]
  exact eq_four (v:=v) (h _ _ _ St)
end
end B
namespace B
section
variable {most:Int} {n i j t:Nat} {σ:Store} {k:Nat} {p:PS} {l:LS} {Q X:PostV}
theorem ex_range {cw:AV->List AV->Nat->Store->PostV->PostV->Prop} {m:Nat} {tg:T} {b:S} {vars:Vars} {N:PostN} {RR XX:PostV} (hm:m<=900) (J:Nat->Vars->Nat->Store->Prop)
  (hs:∀ i,i < m->∀ vars k σ,J i vars k σ->∃ vars',asT tg (.int (i:Int)) vars=some vars'/\∀ N':PostN,(∀ vars k σ,J (i+1) vars k σ->N' vars k σ)->exW cw b vars' k σ N' RR XX)
  (hN:∀ vars k σ,J m vars k σ->N vars k σ) (h:J 0 vars k σ):exW cw (.for tg (.call (.glb 59) (.cons (.cst (.int (m:Int))) .nil)) b) vars k σ N RR XX :=
 smI (by exact om16 hm rfl) (cT rfl (cT (rng_up (nA hm (by decide))) (few_up hm (for_up J hs hN h))))
theorem w40 (R:Rel most σ k p l) (O:Ok p) (S:Sim p l) (h:∀ k' σ',Still k σ k' σ'->Q (.bool true) k' σ'):L (n+8) (.fn 40) [.cell 21,.cell 22,thingsV] k σ Q X:=by
 refine run_fn (fn:=fn40) rfl rfl rfl (ex_range (m:=4) (by decide) (fun uu vars k' σ'=>∃ x3 x4 x5 x6 x7 x8 x9,vars=[some (.cell 21),some (.cell 22),some thingsV,x3,x4,x5,x6,x7,x8,x9,none,none,none,none,none]/\Still k σ k' σ') (fun j hj vars k' σ' hJ=>?_) (fun vars k' σ' hJ=>?_) ⟨none,none,none,none,none,none,none,rfl,Still.refl k σ⟩)
 ·refine eX7 hJ fun x3 x4 x5 x6 x7 x8 x9 qA0=>eD2 qA0 fun e1 St=>?_
  subst e1
  refine eX4 (res_ex p j) fun a b c d hr=>?_
  refine ⟨_,rfl,fun N' hN'=>w33r (R.still St) O S hr fun k1 σ1 S1=>w29 hj fun k2 σ2 S2=>?_⟩
  have St2:=St.trans (S1.trans S2)
  have R2:=R.still St2
  refine w34_2 (run_clo (lm:=lm5) rfl rfl (onI R2.stack (w12 fun σ3 L3=>w58r (R2.mono L3 (nB _)) O hj hr fun k4 σ4 S4=>?_)))
  have St4:=St2.trans (Still.trans ⟨nB _,L3⟩ S4).restr
  have R4:=R.still St4
  refine w34_2 (run_clo (lm:=lm6) rfl rfl (onI R4.stack (w60r R4 O hj hr fun k5 σ5 S5=>?_)))
  have St5:=St4.trans S5.restr
  have R5:=R.still St5
  refine w34_2 (run_clo (lm:=lm7) rfl rfl (onI R5.stack (w59r R5 O hj hr fun k6 σ6 S6=>?_)))
  have St6:=St5.trans S6.restr
  exact turn40 (R.still St6) O S hr fun k7 σ7 x9 S7=>hN' _ _ _ ⟨_,_,_,_,_,_,_,rfl,St6.trans S7⟩
 ·refine eX7 hJ fun x3 x4 x5 x6 x7 x8 x9 qA2=>eD2 qA2 fun e1 St=>?_
  subst e1
  exact h _ _ St.restr
noncomputable def vars42 (i:Nat) (dv:AV) (pv x6 x7:Option AV):Vars:=[some (.cell 21),some thingsV,some (.int (i:Int)),some (.cell (4+3*i)),some dv,pv,x6,x7,none,none,none,none,none,none,none,none,none,none,none,none,none,none,none]
theorem three {C:Nat->Prop} (h0:C 0) (h1:C 1) (h2:C 2):∀ {j:Nat},j < 3->C j
 | 0,_=>h0
 | 1,_=>h1
 | 2,_=>h2
theorem turn42b (R:Rel most σ k p l) (F:Fine (l.prs i)) (hi:i < 5) {dv:AV} {pv:Option AV} {N:PostN} {RR XX:PostV} (h:∀ k' σ' x7,Still k σ k' σ'->N (vars42 i dv pv (some (.int (j:Int))) x7) k' σ') :
  exW (L n) (sDrop 1 (forB (sDrop 5 b42))) (vars42 i dv pv (some (.int (j:Int))) (some (((lk (l.prs i) j).map vthing).getD .none))) k σ N RR XX:=by
 refine eX1 R.state fun ep he=>?_
 have fin:∀ ep7,Still k σ (k+1) (upd σ k (.dict 0 (dictE (l.prs i)) ep7)):=fun ep7=>⟨Nat.le_succ _,(Low.refl k σ).upd _ (nB _)⟩
 have hg:=dictE_get F j
 cases hv:lk (l.prs i) j with
 | none =>
  rw [hv] at hg
  have h0:eqA 3 .none ((dget (dictE (l.prs i)) (.int (j:Int))).getD .none)=some true:=by rw [hg];rfl
  exact onD he (onL R.prss (idx5 hi (okI (pairsAll_map _) (fewM 4 F.length rfl fun ep7=>onD (upd_same _ _ _) (onD (upd_same _ _ _) (okI h0 (h _ _ _ (fin ep7))))))))
 | some v =>
  rw [hv] at hg
  have h0:eqA 3 (.int v) ((dget (dictE (l.prs i)) (.int (j:Int))).getD .none)=some true:=by rw [hg];exact congrArg some (decI v)
  exact onD he (onL R.prss (idx5 hi (okI (pairsAll_map _) (fewM 4 F.length rfl fun ep7=>onD (upd_same _ _ _) (onD (upd_same _ _ _) (okI h0 (h _ _ _ (fin ep7))))))))
theorem turn42 (R:Rel most σ k p l) (O:Ok p) (S:Sim p l) (hi:i < 5) {dv:AV} {pv x7:Option AV} {N:PostN} {RR XX:PostV} (hj:j < 3):(∀ k' σ' x7,Still k σ k' σ'->N (vars42 i dv pv (some (.int (j:Int))) x7) k' σ') ->
  exW (L (n+2)) (forB (sDrop 5 b42)) (vars42 i dv pv (some (.int (j:Int))) x7) k σ N RR XX:=three (C:=fun j=>(∀ k' σ' x7,Still k σ k' σ'->N (vars42 i dv pv (some (.int (j:Int))) x7) k' σ') ->
  exW (L (n+2)) (forB (sDrop 5 b42)) (vars42 i dv pv (some (.int (j:Int))) x7) k σ N RR XX)
 (fun h=>w17 (j:=0) R O hi (by decide) rfl fun k1 σ1 S1=>S.prs▸turn42b (R.still S1) (S.prs▸O.prs i) hi fun k2 σ2 x S2=>h _ _ _ (S1.trans S2))
 (fun h=>w17 (j:=1) R O hi (by decide) rfl fun k1 σ1 S1=>S.prs▸turn42b (R.still S1) (S.prs▸O.prs i) hi fun k2 σ2 x S2=>h _ _ _ (S1.trans S2))
 (fun h=>w17 (j:=2) R O hi (by decide) rfl fun k1 σ1 S1=>S.prs▸turn42b (R.still S1) (S.prs▸O.prs i) hi fun k2 σ2 x S2=>h _ _ _ (S1.trans S2)) hj
theorem tail42 (R:Rel most σ k p l) (O:Ok p) (S:Sim p l) (hi:i < 5) {dv:AV} {pv x6 x7:Option AV} {N:PostN} {RR XX:PostV} (h:∀ k' σ',Still k σ k' σ'->RR (.bool true) k' σ') :
  exW (L (n+2)) (sDrop 5 b42) (vars42 i dv pv x6 x7) k σ N RR XX:=by
 refine (ex_range (m:=3) (by decide) (fun uu vars k' σ'=>∃ x6 x7,vars=vars42 i dv pv x6 x7/\Still k σ k' σ') (fun j hj vars k' σ' hJ=>?_) (fun vars k' σ' hJ=>?_) ⟨x6,x7,rfl,Still.refl k σ⟩)
 ·refine eX2 hJ fun x6 x7 qA4=>eD2 qA4 fun e1 St=>?_
  subst e1
  exact ⟨_,rfl,fun N' hN'=>turn42 (R.still St) O S hi hj fun k4 σ4 tv S4=>hN' _ _ _ ⟨_,_,rfl,St.trans S4⟩⟩
 ·refine eX2 hJ fun x6 x7 qA5=>eD2 qA5 fun e1 St=>?_
  subst e1
  exact h _ _ St
theorem eqT {α:Type} {g:α->AV} {s:List α} {c:Bool->Prop} (e:eqA 3 (.lst (s.map g)) (.lst (s.map g))=some true) (h:c true):okO (eqA 3 (.lst (s.map g)) (.lst (s.map g))) c:=okI e h
theorem w42 (R:Rel most σ k p l) (O:Ok p) (S:Sim p l) (hi:i < 5) (h:∀ k' σ',Still k σ k' σ'->Q (.bool true) k' σ'):L (n+7) (.fn 42) [.cell 21,thingsV,.int (i:Int)] k σ Q X:=by
 have F:Fine (l.prs i):=S.prs▸O.prs i
 have e:=congrFun S.prs i
 refine eX1 R.state fun ep he=>?_
 refine run_fn (fn:=fn42) rfl rfl rfl (idx5 hi (onD he (onL R.prss (idx5 hi (w31 F fun k1 σ1 S1=>w18 (R.still S1) O hi fun k2 σ2 S2=>w30 (O.prs i) fun k3 σ3 S3=>?_)))))
 have St3:=(S1.trans S2).trans S3
 rw [e]
 refine eqT (eq_told (l.prs i)) (w14 (R.still St3) O hi fun k4 σ4 S4=>?_)
 have St4:=St3.trans S4
 rw [e]
 refine fewM 4 F.length rfl (ndT (by rw [nY]) (w19 (R.still St4) O hi fun k5 σ5 S5=>?_))
 have St5:=St4.trans S5
 rw [e]
 refine fewM 4 (nA (nG (sortB_length _)) (nA (namesOf_le _) F.length)) rfl (w41 (R.still St5) O S hi fun k6 σ6 S6=>?_)
 have St6:=St5.trans S6
 have R6:=R.still St6
 refine eqT (eq_names _) (idx5 hi (w34_2 (run_clo (lm:=lm8) rfl rfl (w25 R6 O hi (fun ha k7 σ7 S7=>?_) fun ha k7 σ7 S7=>?_))))
 ·have St7:=St6.trans S7.restr
  have R7:=R.still St7
  refine eX1 R7.state fun ep7 he7=>?_
  rw [S.acc] at ha
  rw [e]
  exact onD he7 (onL R7.accs (idx5 hi (dF (Int.not_lt.mpr ha) (w30 F fun k8 σ8 S8=>eqT (eq_told (l.prs i)) (tail42 (n:=n+4) (R.still (St7.trans S8)) O S hi fun k9 σ9 S9=>h _ _ ((St7.trans S8).trans S9).restr)))))
 ·have St7:=St6.trans S7.restr
  have R7:=R.still St7
  refine eX1 R7.state fun ep7 he7=>?_
  rw [S.acc] at ha
  exact onD he7 (onL R7.accs (idx5 hi (dT (Int.not_le.mp ha) (tail42 (n:=n+4) R7 O S hi fun k9 σ9 S9=>h _ _ (St7.trans S9).restr))))
end
end B
namespace B
theorem intsAll_f {α:Type} (f:α->Int):∀ s:List α,intsAll (s.map fun i=>AV.int (f i))=some (s.map f)
 | []=>rfl
 | i :: s=>congrArg (Option.map (f i :: ·)) (intsAll_f f s)
noncomputable def cz (i:Nat):Int:=(i:Int)
noncomputable def sd (s:List Nat):List Nat:=(sortZ (s.map cz)).map Int.toNat
theorem sd_ints (s:List Nat):(sortZ (s.map cz)).map AV.int=(sd s).map nz:=by
 unfold sd
 rw [List.map_map]
 refine List.map_congr_left fun x hx=>?_
 refine eX1 (List.mem_map.mp ((sortZ_mem _ _).mp hx)) fun i qA0=>eD2 qA0 fun uu e=>?_
 subst e
 rfl
theorem sd_mem (s:List Nat) (i:Nat):i∈sd s↔i∈s:=List.mem_map.trans
 ⟨fun ⟨x,hx,e⟩=>(List.mem_map.mp ((sortZ_mem _ _).mp hx)).elim fun j h=>(show j=i from (congrArg Int.toNat h.2).trans e)▸h.1,fun h=>⟨cz i,(sortZ_mem _ _).mpr (List.mem_map.mpr ⟨i,h,rfl⟩),rfl⟩⟩
theorem sd_nodup (s:List Nat):(sd s).Nodup:=List.pairwise_map.mpr (List.Pairwise.imp_of_mem (fun {a b} ha hb hab=>by
  refine eX1 (List.mem_map.mp ((sortZ_mem _ _).mp ha)) fun x qA1=>eD2 qA1 fun uu ex=>?_
  refine eX1 (List.mem_map.mp ((sortZ_mem _ _).mp hb)) fun y qA2=>eD2 qA2 fun uu ey=>?_
  subst ex ey
  exact fun e=>Int.lt_irrefl _ ((congrArg cz e:cz x=cz y)▸hab)) (sortZ_sorted (s.map cz)))
theorem sd_perm (s:List Nat):(dist s).Perm (sd s):=(List.perm_ext_iff_of_nodup (dist_nodup s) (sd_nodup s)).mpr fun i=>(dist_mem s).trans (sd_mem s i).symm
theorem names_same (prs:Nat->Prs) (s:List Nat):sortB (dist (namesAll prs s))=sortB (dist (namesAll prs (sd s))):=sort_dist fun b =>
 List.mem_flatMap.trans (Iff.trans ⟨fun ⟨i,hi,hb⟩=>⟨i,(sd_mem s i).mpr hi,hb⟩,fun ⟨i,hi,hb⟩=>⟨i,(sd_mem s i).mp hi,hb⟩⟩ List.mem_flatMap.symm)
theorem twice_same (prs:Nat->Prs) (s:List Nat):twice (namesAll prs (dist s))=twice (namesAll prs (sd s)):=twice_congr ((sd_perm s).flatMap_right _)
theorem all5_nz {s:List Nat} (h:∀ i∈s,i < 5):all5 (s.map cz)=true:=nC1.mpr fun x hx=>by
 refine eX1 (List.mem_map.mp hx) fun i qA3=>eD2 qA3 fun hi e=>?_
 subst e
 have:=h i hi
 exact Bool.and_eq_true_iff.mpr ⟨decide_eq_true (Int.natCast_nonneg i),decide_eq_true (Int.ofNat_lt.mpr this)⟩
noncomputable def vars43 (x3:Option AV) (v4 v5 v6 v7:AV) (x8 x9 x10:Option AV):Vars:=[some (.cell 21),some (.cell 22),some thingsV,x3,some v4,some v5,some v6,some v7,x8,x9,x10,none,none,none,none,none,none,none,none]
section
variable {most:Int} {n i j t:Nat} {σ:Store} {k:Nat} {p:PS} {l:LS} {Q X:PostV}
theorem tail43 (R:Rel most σ k p l) (O:Ok p) (S:Sim p l) {x3 x9 x10:Option AV} {v4 v5:AV} {sv hv:Bs} (hs:sv=sortB (dist (namesAll l.prs (sd l.stk)))) (hh:hv=twice (namesAll l.prs (sd l.stk))) {N:PostN} {RR XX:PostV}
  (h:∀ k' σ',Still k σ k' σ'->RR (.bool true) k' σ') :
  exW (L (n+1)) (sDrop 8 b43) (vars43 x3 v4 v5 (.lst (sv.map .bytes)) (.lst (hv.map .bytes)) none x9 x10) k σ N RR XX:=by
 subst hs hh
 have hls:l.stk.length<=6:=S.stk▸O.len.2
 have sdl:(sd l.stk).length<=6:=nA (nG (sd_perm l.stk).length_eq.symm) (nA (dist_length _) hls)
 have al:∀ {d:List Nat},d.length<=6->(namesAll l.prs d).length<=24:=fun hd=>S.prs▸all_len O hd
 refine eX1 R.state fun ep he=>?_
 refine fun ep0=>onD ((upd_other _ _ (nH (nD (by decide) R.low))).trans he) (okI (intsAll_f cz l.stk) (cT (all5_nz fun i hi=>O.stk i (S.stk▸hi)) (fewM 6 hls rfl ?_)))
 have key:∀ {items:List AV} {body:Vars->Nat->Store->PostN->Prop} {inv:Store->Prop} {t:T} {vars:Vars} {k:Nat} {σ:Store} {N:PostN},items=(sd l.stk).map nz->few ((sd l.stk).map nz) (forW t body inv ((sd l.stk).map nz) vars k σ N)->few items (forW t body inv items vars k σ N):=fun e h=>by subst e;exact h
 refine key (sd_ints l.stk) (fewM 6 sdl rfl (for_map (fun d vars k' σ'=>∃ a b,vars=vars43 a v4 v5 (.lst ((sortB (dist (namesAll l.prs (sd l.stk)))).map .bytes)) (.lst ((twice (namesAll l.prs (sd l.stk))).map .bytes)) (some (.cell k)) b x10/\(∃ ep,σ' k=some (.dict 1 (cntE (namesAll l.prs d)) ep))/\k+1<=k'/\Low k σ σ')
  (fun uu uu uu uu uu=>trivial) (fun d t r e vars k' σ' hJ=>?_) (fun vars k' σ' hJ=>?_) ⟨x3,x9,rfl,⟨ep0,upd_same _ _ _⟩,nB _,(Low.refl k σ).upd _ (nB _)⟩))
 ·refine eX2 hJ fun a b qA5=>eD4 qA5 fun e1 qA5x3 hle low=>?_;refine eX1 qA5x3 fun ep1 hk1=>?_
  subst e1
  have hk0:k<=k':=nO hle
  have ht:t < 5:=O.stk t (S.stk▸(sd_mem _ _).mp (mid_mem e))
  have nl:(sortB (namesOf (l.prs t))).length<=4:=S.prs▸names_len O t
  refine ⟨_,rfl,fun N' hN'=>w41 (R.mono low hk0) O S ht fun k4 σ4 S4=>fewM 4 nl rfl (for_map (fun d2 vars k' σ'=>∃ b,vars=vars43 (some (nz t)) v4 v5 (.lst ((sortB (dist (namesAll l.prs (sd l.stk)))).map .bytes)) (.lst ((twice (namesAll l.prs (sd l.stk))).map .bytes)) (some (.cell k)) b x10/\(∃ ep,σ' k=some (.dict 1 (cntE (namesAll l.prs d ++ d2)) ep))/\k+1<=k'/\Low k σ σ')
   (fun uu uu uu uu uu=>trivial) (fun d2 x r2 f vars k5 σ5 hJ=>?_) (fun vars k5 σ5 hJ=>?_) ⟨b,rfl,⟨ep1,?_⟩,nA hle S4.1,low.trans S4.2 hk0⟩)⟩
  ·refine eX1 hJ fun b qA6=>eD4 qA6 fun e1 qA6x2 hle5 low5=>?_;refine eX1 qA6x2 fun ep5 hk5=>?_
   subst e1
   have hm:(namesAll l.prs d ++ d2).length<=24+4:=app_len rfl (al (left_le e sdl)) (left_le f nl)
   exact ⟨_,rfl,fun N2 hN2=>bump_step (x:=8) (y:=9) rfl rfl hk5 (nA hm (by decide)) fun σ6 h6 ⟨ep7,h7⟩=>hN2 _ _ _ ⟨_,rfl,⟨ep7,List.append_assoc (namesAll l.prs d) d2 [x]▸h7⟩,hle5,low5.but (nB _) h6⟩⟩
  ·refine eX1 hJ fun b qA7=>eD4 qA7 fun e1 qA7x2 hle5 low5=>?_;refine eX1 qA7x2 fun ep5 hk5=>?_
   exact hN' _ _ _ ⟨_,_,e1,⟨ep5,namesAll_snoc l.prs d t▸hk5⟩,hle5,low5⟩
  ·exact (S4.2 k hle).trans (hk1.trans (by rw [List.append_nil]))
 ·refine eX2 hJ fun a b qA8=>eD4 qA8 fun e1 qA8x3 hle low=>?_;refine eX1 qA8x3 fun ep1 hk1=>?_
  subst e1
  have hk0:k<=k':=nO hle
  have hn:=al sdl
  have hd:=nA (dist_length (namesAll l.prs (sd l.stk))) hn
  have h2:(twice (namesAll l.prs (sd l.stk))).length<=24:=nA (List.length_filter_le _ _) (nA (nG (sortB_length _)) hd)
  refine twice_comp (x:=8) (nA hn (by decide)) hk1 rfl (fewM 24 (nA (nG (sortB_length _)) hd) rfl (onD hk1 ?_))
  refine cT rfl (sortE (cnt_keys _) (nA hd (by decide)) (eqT (eq_names _) (fewM 24 h2 rfl (eqT (eq_names _) (h _ _ ⟨hk0,low⟩)))))
end
end B
namespace B
noncomputable def bc (i:Nat):AV:=.cell (4+3*i)
theorem inAs_nz (j:Nat):∀ s:List Nat,inAs (j:Int) (s.map nz)=some (decide (j∈s))
 | []=>rfl
 | i :: s=>by
  show (inAs (j:Int) (s.map nz)).bind (fun t=>some (decide ((i:Int)=(j:Int))||t))=_
  rw [inAs_nz j s]
  refine congrArg some ?_
  by_cases e:i=j
  ·rw [decide_eq_true (by exact om29 e),decide_eq_true (nZ.mpr (.inl e.symm))];rfl
  ·rw [decide_eq_false (by exact om30 e)]
   exact decide_eq_decide.mpr ⟨.tail _,fun h=>(nZ.mp h).elim (fun e'=>absurd e'.symm e) id⟩
theorem eq_bools {α:Type} (f:α->Bool) (l:List α):eqA 3 (.lst (l.map fun a=>.bool (f a))) (.lst (l.map fun a=>.bool (f a)))=some true :=
 eq_lst (g:=fun a=>.bool (f a)) (fun a=>congrArg some (beq_self_eq_true (f a))) l
theorem min_lt (f:Nat->Int):∀ s:List Nat,s≠[]->∃ m,minZ (s.map f)=some m/\(m < 2↔∃ x∈s,f x < 2)
 | [],h=>absurd rfl h
 | [x],_=>⟨f x,rfl,fun h=>⟨x,.head _,h⟩,fun ⟨y,hy,h⟩=>List.mem_singleton.mp hy▸h⟩
 | x :: y :: r,_=>by
  obtain ⟨m,h1,h2⟩:=min_lt f (y :: r) nofun
  refine ⟨min (f x) m,by show some (Option.casesOn (motive:=fun uu=>Int) (minZ ((y :: r).map f)) (f x) fun z=>min (f x) z)=_;rw [h1],fun h=>?_,fun ⟨z,hz,hz2⟩=>?_⟩
  ·by_cases hx:f x < 2
   ·exact ⟨x,.head _,hx⟩
   ·obtain ⟨z,hz,hz2⟩:=h2.mp (by exact Decidable.byContradiction fun q=>absurd h (Int.not_lt.mpr (Int.le_min.mpr ⟨Int.not_lt.mp hx,Int.not_lt.mp q⟩)))
    exact ⟨z,.tail _ hz,hz2⟩
  ·rcases nZ.mp hz with e | hz
   ·subst e;exact om118 hz2
   ·have:=h2.mpr ⟨z,hz,hz2⟩
    exact om119 this
inductive SH (p:PS) (l:LS):AV->AV->Prop where
 | all (h:∀ i∈p.stk,2<=p.acc i):SH p l (.lst ((sortB (dist (namesAll p.prs p.stk))).map .bytes)) (.lst ((twice (namesAll p.prs (dist p.stk))).map .bytes))
 | no (i:Nat) (hi:i∈p.stk) (h:¬ 2<=p.acc i):SH p l bInv bInv
theorem sh_ex (p:PS) (l:LS):∃ a b,SH p l a b:=(Classical.em (∀ i∈p.stk,2<=p.acc i)).elim (fun h=>⟨_,_,.all h⟩) fun h=>(Classical.not_forall.mp h).elim fun i h=>(Classical.not_imp.mp h).elim fun hi h=>⟨_,_,.no i hi h⟩
section
variable {most:Int} {n i j t m:Nat} {σ:Store} {k:Nat} {p:PS} {l:LS} {Q X P:PostV} {a b:AV}
theorem w63r (R:Rel most σ k p l) (O:Ok p) (h:SH p l a b) (hq:∀ k' σ',Still k σ k' σ'->P a k' σ'):L (n+4) (.fn 63) [.cell 22] k σ P P:=by
 cases h with
 | all h=>exact w63 R O (fun uu=>hq) fun i hi hn=>absurd (h i hi) hn
 | no i hi h=>exact w63 R O (fun h'=>absurd (h' i hi) h) fun uu uu uu=>hq
theorem w64r (R:Rel most σ k p l) (O:Ok p) (h:SH p l a b) (hq:∀ k' σ',Still k σ k' σ'->P b k' σ'):L (n+4) (.fn 64) [.cell 22] k σ P P:=by
 cases h with
 | all h=>exact w64 R O (fun uu=>hq) fun i hi hn=>absurd (h i hi) hn
 | no i hi h=>exact w64 R O (fun h'=>absurd (h' i hi) h) fun uu uu uu=>hq
theorem comp_range {cw:AV->List AV->Nat->Store->PostV->PostV->Prop} {elt ifs:E} {tg:T} {nv:Nat} {caps:List (Nat×Nat)} {vars:Vars} (hm:m<=900)
  (h:compW (fun vs k σ Q=>evW cw elt vs k σ Q f3) (fun vs k σ Q=>bopW cw ifs .And vs k σ (fun a k σ=>truthW a fun b=>Q b k σ) f3) tg (fun uu=>True) ((List.range m).map nz) [] (capture vars caps (List.replicate nv none)) k σ fun acc k σ=>Q (.lst acc) k σ) :
  evW cw (.comp false elt tg (.call (.glb 59) (.cons (.cst (.int (m:Int))) .nil)) ifs nv caps) vars k σ Q X :=
 smI (by exact om16 hm rfl) (cT rfl (cT (rng_up (nA hm (by decide))) (few_up hm ((rangeL_up m).symm▸h))))
theorem comp_loc {cw:AV->List AV->Nat->Store->PostV->PostV->Prop} {elt ifs:E} {tg:T} {nv y:Nat} {caps:List (Nat×Nat)} {vars:Vars} {s:List Nat} {g:Nat->AV} (hy:vars[y]?=some (some (.lst (s.map g)))) (hl:s.length<=6)
  (h:compW (fun vs k σ Q=>evW cw elt vs k σ Q f3) (fun vs k σ Q=>bopW cw ifs .And vs k σ (fun a k σ=>truthW a fun b=>Q b k σ) f3) tg (fun uu=>True) (s.map g) [] (capture vars caps (List.replicate nv none)) k σ fun acc k σ=>Q (.lst acc) k σ) :
  evW cw (.comp false elt tg (.loc y) ifs nv caps) vars k σ Q X:=okI hy (okI rfl (fewM 6 hl rfl h))
theorem end43 (R:Rel most σ k p l) (O:Ok p) (S:Sim p l) (hv:SH p l a b) {v4 v5:AV} {N:PostN} {RR XX:PostV} (h:∀ k' σ',Still k σ k' σ'->RR (.bool true) k' σ') :
  exW (L (n+1)) (sDrop 7 b43) (vars43 none v4 v5 a b none none none) k σ N RR XX:=by
 have hls:l.stk.length<=6:=S.stk▸O.len.2
 have ne:l.stk≠[]:=fun e=>absurd (S.stk▸O.len.1) (e▸(by decide:¬ 3<=([]:List Nat).length))
 obtain ⟨ep,he⟩:=R.state
 obtain ⟨m,hm1,hm2⟩:=min_lt l.acc l.stk ne
 refine onD he (fewM 6 hls rfl (comp_mapA (g:=nz) (f:=fun i=>.int (l.acc i)) (fun vars=>∃ x,vars=[none,x,some (.cell 21)]) (fun k' σ'=>k'=k/\σ'=σ) (fun uu uu uu=>trivial) ⟨none,rfl⟩ ⟨rfl,rfl⟩ (fun vars k σ Qb h=>h) (fun i hi vars hV=>?_) fun k' σ' hJ=>?_))
 ·obtain ⟨x,e⟩:=hV
  subst e
  refine ⟨_,rfl,⟨_,rfl⟩,fun k' σ' Qe hJ hQ=>?_⟩
  have hq:=hQ _ _ hJ
  obtain ⟨e1,e2⟩:=hJ
  subst e1 e2
  exact onD he (onL R.accs (idx5 (O.stk i (S.stk▸hi)) hq))
 ·obtain ⟨e1,e2⟩:=hJ
  subst e1 e2
  refine okI (intsAll_f l.acc l.stk) (okI hm1 (fewM 6 hls rfl ?_))
  cases hv with
  | all hall =>
   refine dF (fun q=>(hm2.mp q).elim fun i hi=>absurd (S.acc▸hall i (S.stk▸hi.1)) (Int.not_le.mpr hi.2)) ?_
   exact tail43 R O S (by rw [S.prs,S.stk];exact names_same _ _) (by rw [S.prs,S.stk];exact twice_same _ _) h
  | no i hi hn=>exact dT (hm2.mpr ⟨i,S.stk▸hi,S.acc▸Int.not_le.mp hn⟩) (h _ _ (Still.refl _ _))
theorem ex_ifcmp {cw:AV->List AV->Nat->Store->PostV->PostV->Prop} {op:CmpOp} {a b:E} {s1 s2 ss:S} {vars:Vars} {N:PostN} {RR XX:PostV}
  (h:evW cw a vars k σ (fun x k σ=>evW cw b vars k σ (fun y k σ=>cmpW op x y σ fun r=>cond r (exW cw s1 vars k σ (fun vars k σ=>exW cw ss vars k σ N RR XX) RR XX) (exW cw s2 vars k σ (fun vars k σ=>exW cw ss vars k σ N RR XX) RR XX)) XX) XX) :
  exW cw (.cons (.ifs (.cmp op a b) s1 s2) ss) vars k σ N RR XX:=h
theorem ne_same {a:AV} {C:Bool->Prop} (hk:isK 104 a=false) (e:eqA 3 a a=some true) (h:C false):cmpW .NotEq a a σ C:=cF hk (okI e h)
theorem rest43 (R3:Rel most σ k p l) (O:Ok p) (S:Sim p l) {N:PostN} {RR XX:PostV} (h:∀ k' σ',Still k σ k' σ'->RR (.bool true) k' σ') :
  exW (L (n+6)) (sDrop 4 b43) [some (.cell 21),some (.cell 22),some thingsV,none,some (.lst (l.stk.map bc)),some (.lst (l.stk.map bc)),none,none,none,none,none,none,none,none,none,none,none,none,none] k σ N RR XX:=by
 refine ex_ifcmp ?_
 refine comp_loc (y:=2) (s:=List.range 5) (g:=dthing) rfl (by decide) ?_
 refine (comp_mapA (g:=dthing) (f:=fun i=>.bool (decide (i∈l.stk))) (fun vars=>∃ x,vars=[none,x,some (.cell 22)]) (Still k σ) (fun uu uu uu=>trivial) ⟨none,rfl⟩ (Still.refl _ _) (fun vars k σ Qb h=>h) (fun i hi vars hV=>?_) fun k5 σ5 S5=>?_)
 ·obtain ⟨x,e⟩:=hV
  subst e
  refine ⟨_,rfl,⟨_,rfl⟩,fun k' σ' Qe hJ hQ=>?_⟩
  have R4:=R3.still hJ
  refine onI R4.stack (w54 R4 O (List.mem_range.mp hi) fun k5 σ5 S5=>?_)
  rw [S.stk]
  exact hQ _ _ (hJ.trans S5)
 have St5:=S5
 have R5:=R3.still St5
 obtain ⟨ep5,he5⟩:=R5.state
 refine comp_range (m:=5) (by decide) ?_
 refine (comp_mapA (g:=nz) (f:=fun i=>.bool (decide (i∈l.stk))) (fun vars=>∃ x,vars=[none,x,some (.cell 21)]) (fun k' σ'=>k'=k5/\σ'=σ5) (fun uu uu uu=>trivial) ⟨none,rfl⟩ ⟨rfl,rfl⟩ (fun vars k σ Qb h=>h) (fun i hi vars hV=>?_) fun k6 σ6 hJ=>?_)
 ·obtain ⟨x,e⟩:=hV
  subst e
  refine ⟨_,rfl,⟨_,rfl⟩,fun k' σ' Qe hJ hQ=>?_⟩
  have hq:=hQ _ _ hJ
  obtain ⟨e1,e2⟩:=hJ
  subst e1 e2
  exact onD he5 (okI (inAs_nz i l.stk) hq)
 obtain ⟨e1,e2⟩:=hJ
 subst e1 e2
 obtain ⟨a,b,hsh⟩:=sh_ex p l
 refine ne_same rfl (eq_bools (fun i=>decide (i∈l.stk)) (List.range 5)) ?_
 refine w34_2 (run_clo (lm:=lm9) rfl rfl (onI R5.stack (w63r R5 O hsh fun k7 σ7 S7=>?_)))
 have St7:=St5.trans S7.restr
 have R7:=R3.still St7
 refine w34_2 (run_clo (lm:=lm10) rfl rfl (onI R7.stack (w64r R7 O hsh fun k8 σ8 S8=>?_)))
 have St8:=St7.trans S8.restr
 exact end43 (n:=n+5) (R3.still St8) O S hsh fun k9 σ9 S9=>h _ _ (St8.trans S9)
theorem w43 (R:Rel most σ k p l) (O:Ok p) (S:Sim p l) (h:∀ k' σ',Still k σ k' σ'->Q (.bool true) k' σ'):L (n+7) (.fn 43) [.cell 21,.cell 22,thingsV] k σ Q X:=by
 have hls:l.stk.length<=6:=S.stk▸O.len.2
 have stk5:∀ i∈l.stk,i < 5:=fun i hi=>O.stk i (S.stk▸hi)
 obtain ⟨ep,he⟩:=R.state
 obtain ⟨t,ht,ht5⟩:=O.last
 have hs:=S.stk▸ht
 refine run_fn (fn:=fn43) rfl rfl rfl (onD he (fewM 6 hls rfl (comp_mapA (g:=nz) (f:=bc) (fun vars=>∃ x,vars=[none,x,some thingsV]) (fun k' σ'=>k'=k/\σ'=σ) (fun uu uu uu=>trivial) ⟨none,rfl⟩ ⟨rfl,rfl⟩ (fun vars k σ Qb h=>h) (fun i hi vars hV=>?_) fun k' σ' hJ=>?_)))
 ·obtain ⟨x,e⟩:=hV
  subst e
  exact ⟨_,rfl,⟨_,rfl⟩,fun k' σ' Qe hJ hQ=>idx5 (stk5 i hi) (hQ _ _ hJ)⟩
 obtain ⟨e1,e2⟩:=hJ
 subst e1 e2
 refine onI R.stack (w53 R O fun k1 σ1 S1=>fewM 6 O.len.2 rfl ?_)
 rw [S.stk]
 refine comp_mapA (g:=dthing) (f:=bc) (fun vars=>∃ x,vars=[none,x]) (fun k' σ'=>k'=k1/\σ'=σ1) (fun uu uu uu=>trivial) ⟨none,rfl⟩ ⟨rfl,rfl⟩ (fun vars k σ Qb h=>h) (fun i hi vars hV=>?_) fun k₂ σ₂ hJ=>?_
 ·obtain ⟨x,e⟩:=hV
  subst e
  exact ⟨_,rfl,⟨_,rfl⟩,fun k' σ' Qe hJ hQ=>hQ _ _ hJ⟩
 obtain ⟨e1,e2⟩:=hJ
 subst e1 e2
 have R1:=R.still S1
 refine onI R1.stack (w51 R1 O fun k2 σ2 S2=>fewM 6 hls rfl (ndT (by rw [nY,S.stk]) (fewM 6 hls rfl (fewM 6 hls rfl (ndT (by rw [nY]) ?_)))))
 have St2:=S1.trans S2
 have R2:=R.still St2
 refine onI R2.stack (w52 R2 ht fun k3 σ3 S3=>idxL hs ?_)
 have St3:=St2.trans S3
 have R3:=R.still St3
 have b3:=R3.body t ht5
 refine and3 (b3▸rfl) (b3▸rfl) ?_
 rw [decI]
 refine fewM 6 hls rfl ?_
 rw [nY]
 refine smLen hls (cT rfl (cT (rng_up (by exact om11 hls rfl)) (few_up (by exact om11 hls rfl) ?_)))
 rw [rangeL_up]
 refine comp_map (g:=nz) (fun vars=>∃ x,vars=[none,x,some (.lst (l.stk.map bc)),some (.lst (l.stk.map bc))]) (fun k' σ'=>k'=k3/\σ'=σ3) (fun uu=>none) (fun uu uu uu=>trivial) ⟨none,rfl⟩ ⟨rfl,rfl⟩ (fun a ha vars hV=>?_) fun k4 σ4 hJ=>?_
 ·obtain ⟨x,e⟩:=hV
  subst e
  have ha:=List.mem_range.mp ha
  obtain ⟨i,hi⟩:∃ i,l.stk[a]?=some i:=⟨_,nA1 ha⟩
  refine ⟨_,rfl,⟨_,rfl⟩,fun k' σ' hJ=>⟨fun Qb hq=>?_,fun b hb=>nomatch hb⟩⟩
  have hq2:=hq _ _ hJ
  obtain ⟨e1,e2⟩:=hJ
  subst e1 e2
  have bi:=R3.body i (stk5 i (List.mem_of_getElem? hi))
  refine idxM hi (by exact om99 ha hls rfl) (idxM hi (by exact om99 ha hls rfl) (and3 (bi▸rfl) (bi▸rfl) ?_))
  rw [decI]
  exact hq2
 obtain ⟨e1,e2⟩:=hJ
 subst e1 e2
 rw [show (List.range l.stk.length).filterMap (fun uu=>(none:Option AV))=[] from List.filterMap_eq_nil_iff.mpr fun uu uu=>rfl]
 exact rest43 R3 O S fun k' σ' St=>h _ _ (St3.trans St).restr
end
end B
namespace B
section
variable {most:Int} {n i j c:Nat} {σ:Store} {k:Nat} {p:PS} {l:LS} {Q X:PostV}
theorem noneI {α:Type} {o:Option α} {A:Prop} {f:α->Prop} (e:o=none) (h:A):Option.casesOn (motive:=fun uu=>Prop) o A f:=by subst e;exact h
theorem fput_length (x:Nat) (v:AV):∀ fs:List (Nat×AV),(fput fs x v).length<=fs.length+1
 | []=>nB _
 | f :: r=>by
  show (cond (Nat.beq f.1 x) ((f.1,v) :: r) (f :: fput r x v)).length<=_
  cases Nat.beq f.1 x with
  | true=>exact Nat.le_succ _
  | false=>exact Nat.succ_le_succ (fput_length x v r)
theorem fget_same (x:Nat) (v:AV):∀ fs:List (Nat×AV),fget (fput fs x v) x=some v
 | []=>(congrArg (cond · (some v) none) (Nat.beq_refl x):cond (Nat.beq x x) (some v) none=some v)
 | f :: r=>by
  show fget (cond (Nat.beq f.1 x) ((f.1,v) :: r) (f :: fput r x v)) x=some v
  cases e:Nat.beq f.1 x with
  | true=>exact (congrArg (cond · (some v) _) e:cond (Nat.beq f.1 x) (some v) _=some v)
  | false=>exact (congrArg (cond · (some f.2) (fget (fput r x v) x)) e:cond (Nat.beq f.1 x) (some f.2) (fget (fput r x v) x)=_).trans (fget_same x v r)
theorem fget_other {x y:Nat} (v:AV) (h:Nat.beq x y=false):∀ fs:List (Nat×AV),fget (fput fs x v) y=fget fs y
 | []=>(congrArg (cond · (some v) none) h:cond (Nat.beq x y) (some v) none=none)
 | f :: r=>by
  show fget (cond (Nat.beq f.1 x) ((f.1,v) :: r) (f :: fput r x v)) y=cond (Nat.beq f.1 y) (some f.2) (fget r y)
  cases e:Nat.beq f.1 x with
  | true =>
   have e':Nat.beq f.1 y=false:=(nE e).symm▸h
   show cond (Nat.beq f.1 y) (some v) (fget r y)=_
   rw [e'];rfl
  | false=>exact congrArg (cond (Nat.beq f.1 y) (some f.2)) (fget_other v h r)
theorem asg_attr {cw:AV->List AV->Nat->Store->PostV->PostV->Prop} {cls x m:Nat} {e:E} {v:AV} {vars:Vars} {fs:List (Nat×AV)} {ss:S} {N:PostN} {RR XX:PostV} (h0:vars[0]?=some (some (.cell c))) (he:∀ Q:PostV,Q v k σ->evW cw e vars k σ Q XX) (h:σ c=some (.inst cls fs)) (hp:propOf cls x=none) (hf:fieldOk cls x=true) (hl:fs.length<=m) (hm:Nat.ble m 800=true)
  (hq:∀ σ',σ' c=some (.inst cls (fput fs x v))->(∀ j,j≠c->σ' j=σ j)->(fput fs x v).length<=m+1->exW cw ss vars k σ' N RR XX):exW cw (.cons (.asg (.attr (.loc 0) x) e) ss) vars k σ N RR XX :=
 he _ (okI h0 (okI rfl (onI h (noneI hp (cT hf (fewI (nF hl (nF (nC hm) (by decide))) (hq _ (upd_same _ _ _) (fun j hj=>upd_other _ _ hj) (nA (fput_length x v fs) (Nat.succ_le_succ hl)))))))))
theorem asg_dct {cw:AV->List AV->Nat->Store->PostV->PostV->Prop} {cls x m kd:Nat} {vars:Vars} {fs:List (Nat×AV)} {ss:S} {N:PostN} {RR XX:PostV} (h0:vars[0]?=some (some (.cell c))) (hck:c < k) (h:σ c=some (.inst cls fs)) (hp:propOf cls x=none) (hf:fieldOk cls x=true) (hl:fs.length<=m) (hm:Nat.ble m 800=true)
  (hq:∀ σ' ep,σ' c=some (.inst cls (fput fs x (.cell k)))->σ' k=some (.dict kd [] ep)->(∀ j,j < k->j≠c->σ' j=σ j)->(fput fs x (.cell k)).length<=m+1->exW cw ss vars (k+1) σ' N RR XX):exW cw (.cons (.asg (.attr (.loc 0) x) (.dct kd [] .nil)) ss) vars k σ N RR XX:=fun ep =>
 okI h0 (okI rfl (onI ((upd_other _ _ (nH hck)).trans h) (noneI hp (cT hf (fewI (nF hl (nF (nC hm) (by decide))) (hq _ ep (upd_same _ _ _) ((upd_other _ _ (Nat.ne_of_gt hck)).trans (upd_same _ _ _)) (fun j hj hne=>(upd_other _ _ hne).trans (upd_other _ _ (nH hj))) (nA (fput_length x _ fs) (Nat.succ_le_succ hl))))))))
theorem w67 (hck:c < k) (h0:σ c=some (.inst 5 [])) (h:∀ σ',σ' c=some (.inst 5 limF)->(∀ j,j < k->j≠c->σ' j=σ j)->Q .none k σ'):L (n+1) (.fn 67) [.cell c] k σ Q X:=by
 refine run_fn (fn:=fn67) (vars:=[some (.cell c),some (.int 500),some (.int 20),some (.int 250),some (.int 15),some (.int 31),some (.int 65535),some (.int 65535),some (.int 65535),some (.int 127),some (.int 1500),some (.int 11),some (.int 15),some (.int 600),some (.int 16777216)]) rfl rfl rfl ?_
 refine asg_attr rfl (fun Q h=>h) h0 rfl rfl (nB 0) rfl fun σ1 h1 l1 z1=>?_
 refine asg_attr rfl (fun Q h=>h) h1 rfl rfl z1 rfl fun σ2 h2 l2 z2=>?_
 refine asg_attr rfl (fun Q h=>h) h2 rfl rfl z2 rfl fun σ3 h3 l3 z3=>?_
 refine asg_attr rfl (fun Q h=>h) h3 rfl rfl z3 rfl fun σ4 h4 l4 z4=>?_
 refine asg_attr rfl (fun Q h=>h) h4 rfl rfl z4 rfl fun σ5 h5 l5 z5=>?_
 refine asg_attr rfl (fun Q h=>h) h5 rfl rfl z5 rfl fun σ6 h6 l6 z6=>?_
 refine asg_attr rfl (fun Q h=>h) h6 rfl rfl z6 rfl fun σ7 h7 l7 z7=>?_
 refine asg_attr rfl (fun Q h=>h) h7 rfl rfl z7 rfl fun σ8 h8 l8 z8=>?_
 refine asg_attr rfl (fun Q h=>h) h8 rfl rfl z8 rfl fun σ9 h9 l9 z9=>?_
 refine asg_attr rfl (fun Q h=>h) h9 rfl rfl z9 rfl fun σ10 h10 l10 z10=>?_
 refine asg_attr rfl (fun Q h=>h) h10 rfl rfl z10 rfl fun σ11 h11 l11 z11=>?_
 refine asg_attr rfl (fun Q h=>h) h11 rfl rfl z11 rfl fun σ12 h12 l12 z12=>?_
 refine asg_attr rfl (fun Q h=>h) h12 rfl rfl z12 rfl fun σ13 h13 l13 z13=>?_
 refine asg_attr rfl (fun Q h=>h) h13 rfl rfl z13 rfl fun σ14 h14 l14 z14=>?_
 exact h _ ((restr_low _ hck).trans h14) fun j hj hne=>(restr_low _ hj).trans ((l14 j hne).trans ((l13 j hne).trans ((l12 j hne).trans ((l11 j hne).trans ((l10 j hne).trans ((l9 j hne).trans ((l8 j hne).trans ((l7 j hne).trans ((l6 j hne).trans ((l5 j hne).trans ((l4 j hne).trans ((l3 j hne).trans ((l2 j hne).trans (l1 j hne))))))))))))))
noncomputable def memG (u lb:Int):List (Nat×AV):=[(16,.cell 1),(7,.bool false),(49,.lst []),(57,.lst []),(58,.cell 3),(59,.lst []),(60,.int u),(61,.int 0),(62,.int lb),(63,.int 0)]
theorem w68 (hck:c < k) (h0:σ c=some (.inst 6 [])) (h:∀ σ' ep,σ' c=some (.inst 6 [(16,.cell 1),(7,.bool false),(49,.lst []),(57,.lst []),(58,.cell k),(59,.lst []),(60,.int 0),(61,.int 0),(62,.int 0),(63,.int 0)])->σ' k=some (.dict 0 [] ep)->(∀ j,j < k->j≠c->σ' j=σ j)->Q .none (k+1) σ'):L (n+1) (.fn 68) [.cell c,.cell 1] k σ Q X:=by
 have hkc:k≠c:=Nat.ne_of_gt hck
 refine run_keep (fn:=fn68) (vars:=[some (.cell c),some (.cell 1)]) rfl rfl rfl ?_
 refine asg_attr rfl (fun Q h=>h) h0 rfl rfl (nB 0) rfl fun σ1 h1 l1 z1=>?_
 refine asg_attr rfl (fun Q h=>h) h1 rfl rfl z1 rfl fun σ2 h2 l2 z2=>?_
 refine asg_attr rfl (fun Q h=>h) h2 rfl rfl z2 rfl fun σ3 h3 l3 z3=>?_
 refine asg_attr rfl (fun Q h=>h) h3 rfl rfl z3 rfl fun σ4 h4 l4 z4=>?_
 refine asg_dct rfl hck h4 rfl rfl z4 rfl fun σ5 ep h5 d5 l5 z5=>?_
 refine asg_attr rfl (fun Q h=>h) h5 rfl rfl z5 rfl fun σ6 h6 l6 z6=>?_
 refine asg_attr rfl (fun Q h=>h) h6 rfl rfl z6 rfl fun σ7 h7 l7 z7=>?_
 refine asg_attr rfl (fun Q h=>h) h7 rfl rfl z7 rfl fun σ8 h8 l8 z8=>?_
 refine asg_attr rfl (fun Q h=>h) h8 rfl rfl z8 rfl fun σ9 h9 l9 z9=>?_
 refine asg_attr rfl (fun Q h=>h) h9 rfl rfl z9 rfl fun σ10 h10 l10 z10=>?_
 exact h _ ep h10 ((l10 k hkc).trans ((l9 k hkc).trans ((l8 k hkc).trans ((l7 k hkc).trans ((l6 k hkc).trans d5))))) fun j hj hne=>(l10 j hne).trans ((l9 j hne).trans ((l8 j hne).trans ((l7 j hne).trans ((l6 j hne).trans ((l5 j hj hne).trans ((l4 j hne).trans ((l3 j hne).trans ((l2 j hne).trans (l1 j hne)))))))))
theorem w47 (hck:c < k) (h0:σ c=some (.inst 2 [])) {a b d e:AV} (h:∀ σ' ep,σ' c=some (.inst 2 [(5,a),(6,b),(7,d),(8,e),(4,.int 3),(9,.cell k)])->σ' k=some (.dict 3 [] ep)->(∀ j,j < k->j≠c->σ' j=σ j)->Q .none (k+1) σ'):L (n+1) (.fn 47) [.cell c,a,b,d,e] k σ Q X:=by
 refine run_keep (fn:=fn47) (vars:=[some (.cell c),some a,some b,some d,some e,none]) rfl rfl rfl ?_
 refine asg_attr rfl (fun Q h=>h) h0 rfl rfl (nB 0) rfl fun σ1 h1 l1 z1=>?_
 refine asg_attr rfl (fun Q h=>h) h1 rfl rfl z1 rfl fun σ2 h2 l2 z2=>?_
 refine asg_attr rfl (fun Q h=>h) h2 rfl rfl z2 rfl fun σ3 h3 l3 z3=>?_
 refine asg_attr rfl (fun Q h=>h) h3 rfl rfl z3 rfl fun σ4 h4 l4 z4=>?_
 refine asg_attr rfl (fun Q h=>h) h4 rfl rfl z4 rfl fun σ5 h5 l5 z5=>?_
 refine asg_dct rfl hck h5 rfl rfl z5 rfl fun σ6 ep h6 d6 l6 z6=>?_
 exact h _ ep h6 d6 fun j hj hne=>(l6 j hj hne).trans ((l5 j hne).trans ((l4 j hne).trans ((l3 j hne).trans ((l2 j hne).trans (l1 j hne)))))
theorem w50 (hck:c < k) (h0:σ c=some (.inst 3 [])) {t0 t1 t2 m:AV} (h:∀ σ',σ' c=some (.inst 3 [(6,m),(18,.cell k)])->σ' k=some (.list [t0,t1,t2])->(∀ j,j < k->j≠c->σ' j=σ j)->Q .none (k+1) σ'):L (n+1) (.fn 50) [.cell c,t0,t1,t2,m] k σ Q X:=by
 have hkc:k≠c:=Nat.ne_of_gt hck
 exact run_keep (fn:=fn50) rfl rfl rfl (onI h0 (onI ((upd_other _ _ hkc.symm).trans (upd_same _ _ _)) (h _ (upd_same _ _ _) ((upd_other _ _ hkc).trans (upd_same _ _ _)) fun j hj hne=>(upd_other _ _ hne).trans ((upd_other _ _ (nH hj)).trans (upd_other _ _ hne)))))
theorem w66 (hck:c < k) (h0:σ c=some (.inst 4 [])) {a1 a2 a3 a4 a5 a6:AV} (h:∀ σ' fm,σ' c=some (.inst 4 fm)->fget fm 24=some a3->(∀ j,j < k->j≠c->σ' j=σ j)->Q .none (k+1) σ'):L (n+1) (.fn 66) [.cell c,a1,a2,a3,a4,a5,a6] k σ Q X:=by
 refine run_keep (fn:=fn66) (vars:=[some (.cell c),some a1,some a2,some a3,some a4,some a5,some a6,none]) rfl rfl rfl ?_
 refine asg_attr rfl (fun Q h=>h) h0 rfl rfl (nB 0) rfl fun σ1 h1 l1 z1=>?_
 refine asg_attr rfl (fun Q h=>h) h1 rfl rfl z1 rfl fun σ2 h2 l2 z2=>?_
 refine asg_attr rfl (fun Q h=>h) h2 rfl rfl z2 rfl fun σ3 h3 l3 z3=>?_
 refine asg_attr rfl (fun Q h=>h) h3 rfl rfl z3 rfl fun σ4 h4 l4 z4=>?_
 refine asg_attr rfl (fun Q h=>h) h4 rfl rfl z4 rfl fun σ5 h5 l5 z5=>?_
 refine asg_attr rfl (fun Q h=>h) h5 rfl rfl z5 rfl fun σ6 h6 l6 z6=>?_
 refine asg_attr rfl (fun Q h=>h) h6 rfl rfl z6 rfl fun σ7 h7 l7 z7=>?_
 refine asg_attr rfl (fun Q h=>h) h7 rfl rfl z7 rfl fun σ8 h8 l8 z8=>?_
 refine asg_attr rfl (fun Q h=>h) h8 rfl rfl z8 rfl fun σ9 h9 l9 z9=>?_
 refine asg_dct rfl hck h9 rfl rfl z9 rfl fun σ10 ep h10 d10 l10 z10=>?_
 refine asg_attr rfl (fun Q h=>h) h10 rfl rfl z10 rfl fun σ11 h11 l11 z11=>?_
 refine asg_attr rfl (fun Q h=>h) h11 rfl rfl z11 rfl fun σ12 h12 l12 z12=>?_
 refine asg_attr rfl (fun Q h=>h) h12 rfl rfl z12 rfl fun σ13 h13 l13 z13=>?_
 refine asg_attr rfl (fun Q h=>h) h13 rfl rfl z13 rfl fun σ14 h14 l14 z14=>?_
 refine asg_attr rfl (fun Q h=>h) h14 rfl rfl z14 rfl fun σ15 h15 l15 z15=>?_
 refine asg_attr rfl (fun Q h=>h) h15 rfl rfl z15 rfl fun σ16 h16 l16 z16=>?_
 refine asg_attr rfl (fun Q h=>h) h16 rfl rfl z16 rfl fun σ17 h17 l17 z17=>?_
 refine asg_attr rfl (fun Q h=>h) h17 rfl rfl z17 rfl fun σ18 h18 l18 z18=>?_
 refine asg_attr rfl (fun Q h=>h) h18 rfl rfl z18 rfl fun σ19 h19 l19 z19=>?_
 refine asg_attr rfl (fun Q h=>h) h19 rfl rfl z19 rfl fun σ20 h20 l20 z20=>?_
 refine asg_attr rfl (fun Q h=>h) h20 rfl rfl z20 rfl fun σ21 h21 l21 z21=>?_
 refine asg_attr rfl (fun Q h=>h) h21 rfl rfl z21 rfl fun σ22 h22 l22 z22=>?_
 refine asg_attr rfl (fun Q h=>h) h22 rfl rfl z22 rfl fun σ23 h23 l23 z23=>?_
 refine asg_attr rfl (fun Q h=>h) h23 rfl rfl z23 rfl fun σ24 h24 l24 z24=>?_
 refine asg_attr rfl (fun Q h=>h) h24 rfl rfl z24 rfl fun σ25 h25 l25 z25=>?_
 refine asg_attr rfl (fun Q h=>h) h25 rfl rfl z25 rfl fun σ26 h26 l26 z26=>?_
 exact h _ _ h26 ((fget_other _ rfl _).trans ((fget_other _ rfl _).trans ((fget_other _ rfl _).trans ((fget_other _ rfl _).trans ((fget_other _ rfl _).trans ((fget_other _ rfl _).trans ((fget_other _ rfl _).trans ((fget_other _ rfl _).trans ((fget_other _ rfl _).trans ((fget_other _ rfl _).trans ((fget_other _ rfl _).trans ((fget_other _ rfl _).trans ((fget_other _ rfl _).trans ((fget_other _ rfl _).trans ((fget_other _ rfl _).trans ((fget_other _ rfl _).trans ((fget_other _ rfl _).trans ((fget_other _ rfl _).trans ((fget_other _ rfl _).trans ((fget_other _ rfl _).trans ((fget_other _ rfl _).trans ((fget_other _ rfl _).trans ((fget_other _ rfl _).trans (fget_same _ _ _)))))))))))))))))))))))) fun j hj hne=>(l26 j hne).trans ((l25 j hne).trans ((l24 j hne).trans ((l23 j hne).trans ((l22 j hne).trans ((l21 j hne).trans ((l20 j hne).trans ((l19 j hne).trans ((l18 j hne).trans ((l17 j hne).trans ((l16 j hne).trans ((l15 j hne).trans ((l14 j hne).trans ((l13 j hne).trans ((l12 j hne).trans ((l11 j hne).trans ((l10 j hj hne).trans ((l9 j hne).trans ((l8 j hne).trans ((l7 j hne).trans ((l6 j hne).trans ((l5 j hne).trans ((l4 j hne).trans ((l3 j hne).trans ((l2 j hne).trans (l1 j hne)))))))))))))))))))))))))
theorem w65 (hck:c < k) (h0:σ c=some (.inst 4 [])) {a1 a2 a3 a4 a5 a6:AV} (h:∀ σ' fm,σ' c=some (.inst 4 fm)->fget fm 24=some a3->(∀ j,j < k->j≠c->σ' j=σ j)->Q .none (k+1) σ'):L (n+2) (.fn 65) [.cell c,a1,a2,a3,a4,a5,a6] k σ Q X :=
 run_keep (fn:=fn65) rfl rfl rfl (onI h0 (w66 hck h0 h))
end
end B
namespace B
noncomputable def mu (i:Nat):Int:=2+((i % 3:Nat):Int)
noncomputable def sumU:Nat->Int
 | 0=>0
 | i+1=>sumU i+mu i
noncomputable def madeU (i:Nat):AV×AV:=(.int (i+1),.tup [.int (16*mu i),.bool false,.int 0])
noncomputable def bodyU (i:Nat):List (Nat×AV):=[(5,.int (i+1)),(6,.int (mu i)),(7,.bool false),(8,.int 0),(4,.int 3),(9,.cell (5+3*i))]
structure Up (l:LS) (i:Nat) (σ:Store):Prop where
 well:σ 0=some (.list [.lst (l.nums.map .int),.int l.pos,.int l.stir])
 lim:σ 1=some (.inst 5 limF)
 mem:σ 2=some (.inst 6 (memG (16*sumU i) i))
 made:∃ ep,σ 3=some (.dict 0 ((List.range i).map madeU) ep)
 body:∀ j,j < i->σ (4+3*j)=some (.inst 2 (bodyU j))
 ent:∀ j,j < i->∃ ep,σ (5+3*j)=some (.dict 3 [] ep)
theorem mu_le (i:Nat):2<=mu i/\mu i<=4:=by unfold mu;exact om145
theorem sumU_le:∀ i:Nat,0<=sumU i/\sumU i<=4*i
 | 0=>by decide
 | i+1=>by
  have:=sumU_le i
  have:=mu_le i
  show 0<=sumU i+mu i/\sumU i+mu i<=4*((i+1:Nat):Int)
  omega
theorem dput_madeU (i:Nat):dput ((List.range i).map madeU) (.int ((i:Int)+1)) (.tup [.int (16*mu i),.bool false,.int 0])=(List.range (i+1)).map madeU :=
 (go _ fun j hj=>List.mem_range.mp hj).trans (congrArg (List.map madeU) List.range_succ.symm)
where
 go:∀ (s:List Nat),(∀ j∈s,j < i)->dput (s.map madeU) (.int ((i:Int)+1)) (.tup [.int (16*mu i),.bool false,.int 0])=(s ++ [i]).map madeU
  | [],_=>rfl
  | a :: r,hs=>by
   have ha:=hs a (.head _)
   show cond (decide ((a:Int)+1=(i:Int)+1)) _ (madeU a :: dput (r.map madeU) _ _)=_
   rw [decide_eq_false (by exact om34 ha)]
   exact congrArg (madeU a :: ·) (go r fun j hj=>hs j (.tail _ hj))
theorem Up.low {l:LS} {i k:Nat} {σ σ':Store} (U:Up l i σ) (h:Low k σ σ') (hk:3+3*i<=k) (h4:4<=k):Up l i σ':=⟨(h 0 (by exact om8 hk rfl)).trans U.well,(h 1 (by exact om8 hk rfl)).trans U.lim,(h 2 (by exact om8 hk rfl)).trans U.mem,U.made.imp fun uu e=>(h 3 (by assumption)).trans e,fun j hj=>(h _ (by exact om74 hk hj)).trans (U.body j hj),fun j hj=>(U.ent j hj).imp fun uu e=>(h _ (by exact om75 hk hj)).trans e⟩
section
variable {most:Int} {n i j c:Nat} {σ:Store} {k:Nat} {p:PS} {l:LS} {Q X:PostV}
theorem w27 {a b:Int} (h0:0<=a) (h1:a<=b) (h:∀ σ',Low k σ σ'->Q .none k σ'):L (n+1) (.fn 27) [.int a,.int b] k σ Q X :=
 run_fn (fn:=fn27) rfl rfl rfl (dF (Int.not_lt.mpr h0) (dF (Int.not_lt.mpr h1) (h _ (Low.refl k σ).restr)))
theorem w72g {u lb a:Int} (hm:σ 2=some (.inst 6 (memG u lb))) (hl:σ 1=some (.inst 5 limF)) (h0:0<=u) (h1:u < 1000) (h2:0<=a) (h3:a < 1000) (h:∀ σ',Low k σ σ'->Q .none k σ'):L (n+1) (.fn 72) [.cell 2,.int a] k σ Q X :=
 run_fn (fn:=fn72) rfl rfl rfl (onI hm (onI hm (smI (by exact om20 h0 h1 rfl) (smI (by decide) (smI (by exact om21 h0 h1 rfl) (smI (by exact om20 h2 h3 rfl) (onI hm (onI hl (dF (by exact om126 h1 h3 rfl) (h _ (Low.refl k σ).restr))))))))))
theorem w70g {u lb:Int} (hm:σ 2=some (.inst 6 (memG u lb))) (h:∀ σ',Low k σ σ'->Q (.int 0) k σ'):L (n+2) (.fn 70) [.cell 2] k σ Q X :=
 run_fn (fn:=fn70) rfl rfl rfl (onI hm (onI hm (run_fn (fn:=fn69) rfl rfl rfl (onI hm (h _ (Low.refl k σ).restr.restr)))))
theorem w71 (U:Up l i σ) (hi:i < 5) (hk:4<=k) (h:∀ σ' ep,(∀ j,j < k->j≠2->j≠3->σ' j=σ j)->σ' 2=some (.inst 6 (memG (16*sumU (i+1)) ((i+1:Nat):Int)))->σ' 3=some (.dict 0 ((List.range (i+1)).map madeU) ep)->Q (.int ((i:Int)+1)) k σ') :
  L (n+3) (.fn 71) [.cell 2,.int (16*mu i)] k σ Q X:=by
 have hsu:=sumU_le i
 have hmu:=mu_le i
 refine eX1 U.made fun ep hmade=>?_
 have hm:=U.mem
 refine run_fn (fn:=fn71) rfl rfl rfl (onI hm (w72g hm U.lim (by exact om25 hsu rfl) (by exact om114 hsu hi rfl) (by exact om39) (by exact om26 hmu rfl) fun σ1 L1=>?_))
 have m1:=(L1 2 (by exact om7 hk rfl)).trans hm
 have d1:=(L1 3 (by assumption)).trans hmade
 have m2:upd σ1 2 (.inst 6 (fput (memG (16*sumU i) i) 62 (.int ((i:Int)+1)))) 2=some (.inst 6 (memG (16*sumU i) ((i:Int)+1))):=upd_same _ _ _
 refine onI m1 (smI (by exact om17 hi rfl) (smI (by decide) (onI m1 (onI m2 (onI m2 (w70g m2 fun σ3 L3=>?_))))))
 have m3:=(L3 2 (by exact om7 hk rfl)).trans m2
 have d3:=(L3 3 (by assumption)).trans ((upd_other _ _ (by decide)).trans d1)
 refine onI m3 (onI m3 (onD d3 (fewM 5 (nA (nG List.length_range) (nU hi)) rfl fun ep2=>?_)))
 have m4:∀ {c},upd σ3 3 c 2=some (.inst 6 (memG (16*sumU i) ((i:Int)+1))):=fun {c}=>(upd_other _ _ (by decide)).trans m3
 refine onI m4 (onI m4 (smI (by exact om113 hsu hi rfl) (smI (by exact om22 hmu rfl) (onI m4 (onI (upd_same _ _ _) ?_)))))
 have e:memG (16*sumU i+16*mu i) ((i:Int)+1)=memG (16*sumU (i+1)) ((i+1:Nat):Int):=congr (congrArg memG (by show _=16*(sumU i+mu i);exact (Int.mul_add 16 _ _).symm)) (by exact om35)
 exact h _ ep2 (fun j hj h2 h3=>(restr_low _ hj).trans ((upd_other _ _ h2).trans ((upd_other _ _ h3).trans ((L3 j hj).trans ((upd_other _ _ h2).trans (L1 j hj))))))
  ((restr_low _ (by exact om7 hk rfl)).trans ((upd_same _ _ _).trans (congrArg (fun f=>some (Cell.inst 6 f)) e))) ((restr_low _ (by assumption)).trans ((upd_other _ _ (by decide)).trans ((upd_same _ _ _).trans (congrArg (fun es=>some (Cell.dict 0 es ep2)) (dput_madeU i)))))
theorem w73 (U:Up l i σ) (hi:i < 5) (hk:k=4+3*i) (h:∀ σ',Up l (i+1) σ'->Q (.cell (4+3*i)) (k+2) σ'):L (n+4) (.fn 73) [.cell 2,.int (mu i)] k σ Q X:=by
 have hmu:=mu_le i
 subst hk
 refine run_keep (fn:=fn73) rfl rfl rfl (onI U.mem (onI U.lim (w27 (by exact om39) (by exact om28 hmu rfl) fun σ1 L1=>?_)))
 have U1:=U.low L1 (by exact om110 rfl) (by exact om9 rfl)
 refine onI U1.mem (smI (by exact om18 hmu rfl) (w71 U1 hi (nP _ _) fun σ2 ep2 low2 m2 d2=>onI m2 (onI m2 (w70g m2 fun σ3 L3=>w47 (nQ _) (upd_same _ _ _) fun σ4 ep4 b4 d4 low4=>?_))))
 have lo:∀ j,j < 4+3*i->σ4 j=σ2 j:=fun j hj=>(low4 j (nX hj) (nH hj)).trans ((upd_other _ _ (nH hj)).trans (L3 j hj))
 have lo1:∀ j,j < 4+3*i->j≠2->j≠3->σ4 j=σ1 j:=fun j hj h2 h3=>(lo j hj).trans (low2 j hj h2 h3)
 have e5:5+3*i=4+3*i+1:=by exact om111
 refine h _ ⟨(lo1 0 (by exact om9 rfl) (by decide) (by decide)).trans U1.well,(lo1 1 (by exact om9 rfl) (by decide) (by decide)).trans U1.lim,(lo 2 (by exact om9 rfl)).trans m2,⟨ep2,(lo 3 (by exact om9 rfl)).trans d2⟩,
  fun j hj=>(Decidable.em (j=i)).elim (fun e=>?_) fun e=>(lo1 _ (by exact om72 hj e) (by exact om1 rfl) (by exact om1 rfl)).trans (U1.body j (by exact om71 hj e)),fun j hj=>(Decidable.em (j=i)).elim (fun e=>⟨ep4,?_⟩) fun e=>(U1.ent j (by exact om71 hj e)).imp fun uu he=>(lo1 _ (by exact om73 hj e) (by exact om1 rfl) (by exact om1 rfl)).trans he⟩
 ·subst e
  exact b4.trans (by unfold bodyU;rw [e5])
 ·subst e
  rw [e5];exact d4
theorem elt5 (U:Up l i σ) (hi:i < 5) (h:∀ σ',Up l (i+1) σ'->Q (dthing i) (4+3*(i+1)) σ') :
  evW (L (n+4)) (.call (.glb 2) (.cons (.meth (.loc 3) 80 (.cons (.bin false .Add (.cst (.int 2)) (.bin false .Mod (.loc 1) (.cst (.int 3)))) .nil)) .nil)) [none,some (.int (i:Int)),none,some (.cell 2)] (4+3*i) σ Q X:=by
 have e:Int.fmod (i:Int) 3=((i % 3:Nat):Int):=by rw [Int.fmod_eq_emod_of_nonneg _ (by decide)];rfl
 refine onI U.mem (And.intro (by decide) ?_)
 rw [e]
 exact smI (by exact om103 rfl) (w73 U hi rfl fun σ1 U1=>w2 fun σ2 low2=>h σ2 (U1.low low2 (by exact nG ((Nat.add_right_comm 3 (3*_) 3).trans (Nat.add_right_comm 4 (3*_) 2).symm)) (by exact om109 rfl)))
end
end B
namespace B
theorem dictEq_like (b:Prs):∀ a:Prs,dictEqZ (b.map pz) (a.map pz)=some (a.all fun q=>decide (lk b q.1=some q.2))
 | []=>rfl
 | q :: r=>by
  show Option.casesOn (motive:=fun uu=>Option Bool) (dget (b.map pz) (nz q.1)) (some false) (fun c=>(dictEqZ (b.map pz) (r.map pz)).bind fun t=>cond (isK 2 (.int q.2)&&isK 2 c) (some (ueq (.int q.2) c&&t)) none)=_
  rw [show dget (b.map pz) (nz q.1)=(aget b q.1).map AV.int from dget_a kZ b,lk_aget,dictEq_like b r,List.all_cons]
  cases h:lk b q.1 with
  | none=>rfl
  | some v=>exact congrArg (fun x=>some (x&&_)) (decide_eq_decide.mpr ⟨fun e=>congrArg some e.symm,fun e=>(oJ e).symm⟩)
theorem like_eq {a b:Prs} (Fa:Fine a) (Fb:Fine b):cond (Nat.beq (dictE a).length (dictE b).length) (dictEqZ (dictE b) (dictE a)) (some false)=some (like a b):=by
 rw [dictE_eq Fa,dictE_eq Fb,nY,nY,dictEq_like]
 unfold like
 exact beq_e (C:=fun x=>cond x (some (a.all fun q=>decide (lk b q.1=some q.2))) (some false)=some (decide (a.length=b.length)&&_)) (fun h=>by rw [decide_eq_true h];rfl) fun h=>by rw [decide_eq_false h];rfl
noncomputable def vars44 (sc nums:AV) (x4 x8:Option AV):Vars:=[some sc,some nums,some (.cell 0),some (.cell 2),x4,some thingsV,some (.cell 21),some (.cell 22),x8,none,none,none,none,none,none,none,none,none,none,none,none,none,none,none,none,none,none,none,none,none,none,none]
theorem beqF {b:Bool} {P Q:Prop} (h:Q):cond (!(b==b)) P Q:=by rw [beq_self_eq_true];exact h
theorem finT {a b c d:Int} {C:Bool->Prop} (h1:a=b) (h2:c=d) (q:C true):C (decide (a=b)&&(decide (c=d)&&true)):=by rw [decide_eq_true h1,decide_eq_true h2];exact q
section
variable {most:Int} {n i j c:Nat} {σ:Store} {k:Nat} {p:PS} {l:LS} {Q X:PostV}
theorem mach44 (R:Rel most σ k p l) (O:Ok p) (S:Sim p l) {sc nums:AV} {x4 x8:Option AV} {v9 v10 v11:AV} {N:PostN} {RR XX:PostV} (h:∀ k' σ',RR (.bool true) k' σ') :
  exW (L (n+8)) (sDrop 13 b44) ((((vars44 sc nums x4 x8).set 9 (some v9)).set 10 (some v10)).set 11 (some v11)) k σ N RR XX:=by
 have hls:l.stk.length<=6:=S.stk▸O.len.2
 have Fs:∀ i,Fine (l.prs i):=fun i=>S.prs▸O.prs i
 refine w67 (nQ k) (upd_same _ _ _) fun σa la lowa epb=>?_
 have Ra:Rel most σa (k+1) p l:=R.mono (fun j hj=>(lowa j (nX hj) (nH hj)).trans (upd_other _ _ (nH hj))) (Nat.le_succ _)
 have Rb:Rel most (upd σa (k+1) (.dict 3 [] epb)) (k+1+1) p l:=Ra.fresh _
 refine w65 (n:=n+6) (nQ _) (upd_same _ _ _) fun σc fm lc hf lowc=>?_
 have Rc:Rel most σc (k+1+1+1+1) p l:=Rb.mono (fun j hj=>(lowc j (nX hj) (nH hj)).trans (upd_other _ _ (nH hj))) (by exact om132)
 refine eX1 Rc.state fun ep he=>?_
 refine onD he (fewM 6 hls rfl (onD he (fewM 6 hls rfl (comp_mapA (g:=nz) (f:=fun i=>.int (((l.prs i).map pairV).length:Int)) (fun vars=>∃ x y,vars=[none,x,y,some (.cell 21)]) (fun k' σ'=>k'=k+1+1+1+1/\σ'=σc) (fun uu uu uu=>trivial) ⟨none,none,rfl⟩ ⟨rfl,rfl⟩ (fun vars k σ Qb h=>h) (fun i hi vars hV=>?_) fun k' σ' hJ=>?_))))
 ·refine eX2 hV fun x y e=>?_
  subst e
  refine ⟨_,rfl,⟨_,_,rfl⟩,fun k' σ' Qe hJ hQ=>?_⟩
  have hq:=hQ _ _ hJ
  refine eD2 hJ fun e1 e2=>?_
  subst e1 e2
  exact onD he (onL Rc.prss (idx5 (O.stk i (S.stk▸hi)) (fewM 4 (Fs i).length rfl hq)))
 ·refine eD2 hJ fun e1 e2=>?_
  subst e1 e2
  have hsm:allSmall (l.stk.map fun i=>(((l.prs i).map pairV).length:Int))=true:=nC1.mpr fun x hx=>by
   refine eX1 (List.mem_map.mp hx) fun i qA4=>eD2 qA4 fun uu e=>?_
   subst e
   have:=(Fs i).length
   exact nJ (by rw [nY];exact om51 (m:=1000*_) (Nat.mul_le_mul_left 1000 this) rfl)
  refine okI (intsAll_f (fun i=>(((l.prs i).map pairV).length:Int)) l.stk) (cT hsm (fewM 6 hls rfl (w26 (n:=n+6) Rc O (by exact om133) lc hf fun kd σd Sd=>?_)))
  refine finT (C:=fun b=>RR (.bool b) kd σd) (by rw [S.stk,nY]) ?_ (h _ _)
  rw [S.stk,S.prs]
  exact congrArg List.sum (List.map_congr_left fun i uu=>by rw [nY])
theorem tail44 (R:Rel most σ k p l) (O:Ok p) (S:Sim p l) (W:WellOk l) (hp:l.pos < 400) {sc nums:AV} {x4 x8:Option AV} {N:PostN} {RR XX:PostV} (h:∀ k' σ',RR (.bool true) k' σ') :
  exW (L (n+8)) (sDrop 8 b44) (vars44 sc nums x4 x8) k σ N RR XX:=by
 have Fs:∀ i,Fine (l.prs i):=fun i=>S.prs▸O.prs i
 have wp:=W.pos
 refine w43 R O S fun k1 σ1 S1=>w40 (R.still S1) O S fun k2 σ2 S2=>w28 (R.still (S1.trans S2)) W (size:=5) (by decide) fun r3 σ3 stir3 a1 a2 a3 a4 R3=>?_
 have W3:WellOk { l with pos:=l.pos+1,stir:=stir3 }:=⟨W.nums,W.len,by dsimp only;exact om146 wp.1 hp rfl,a3,a4⟩
 refine w28 R3 W3 (size:=5) (by decide) fun r4 σ4 stir4 b1 b2 b3 b4 R4=>?_
 obtain ⟨i1,e1⟩:∃ i1:Nat,r3=i1:=⟨r3.toNat,by exact om42 a1⟩
 obtain ⟨i2,e2⟩:∃ i2:Nat,r4=i2:=⟨r4.toNat,by exact om42 b1⟩
 subst e1 e2
 have h1:i1 < 5:=by exact om38 a2
 have h2:i2 < 5:=by exact om38 b2
 refine eX1 R4.state fun ep4 he4=>?_
 refine onD he4 (onL R4.prss (idx5 h1 (okI (pairsAll_map _) (fewM 4 (Fs i1).length rfl fun ep5=>?_))))
 have R5:=R4.fresh (.dict 0 (dictE (l.prs i1)) ep5)
 refine eX1 R5.state fun ep6 he6=>?_
 refine onD he6 (onL R5.prss (idx5 h2 (okI (pairsAll_map _) (fewM 4 (Fs i2).length rfl fun ep7=>?_))))
 have R7:=R5.fresh (.dict 0 (dictE (l.prs i2)) ep7)
 refine onD ((upd_other _ _ (nH (nQ _))).trans (upd_same _ _ _)) (onD (upd_same _ _ _) (okI (like_eq (Fs i1) (Fs i2)) (idx5 h1 (idx5 h2 (w23 R7 O h1 h2 fun k8 σ8 S8=>?_)))))
 rw [S.prs]
 exact beqF (w24 fun k9 σ9 S9=>mach44 ((R7.still S8).still S9) O ⟨S.stk,S.acc,S.prs⟩ h)
end
end B
namespace B
section
variable {most:Int} {n i j c:Nat} {σ:Store} {k:Nat} {p:PS} {l:LS} {Q X:PostV}
theorem ex_asg {cw:AV->List AV->Nat->Store->PostV->PostV->Prop} {g:G} {e:E} {ss:S} {vars:Vars} {N:PostN} {RR XX:PostV} (h:evW cw e vars k σ (fun v k σ=>gW cw g v vars k σ (fun vars k σ=>exW cw ss vars k σ N RR XX) XX) XX):exW cw (.cons (.asg g e) ss) vars k σ N RR XX:=h
theorem comp5 {elt:Vars->Nat->Store->(AV->Nat->Store->Prop)->Prop} {ok:Vars->Nat->Store->(Bool->Nat->Store->Prop)->Prop} (hok:∀ vars k σ Qb,Qb true k σ->ok vars k σ Qb)
  (he:∀ (i:Nat) (σ:Store) (Q:PostV),i < 5->Up l i σ->(∀ σ',Up l (i+1) σ'->Q (dthing i) (4+3*(i+1)) σ')->elt [none,some (.int (i:Int)),none,some (.cell 2)] (4+3*i) σ Q) {Q:List AV->Nat->Store->Prop}
  (hQ:∀ σ',Up l 5 σ'->Q ((List.range 5).map dthing) 19 σ'):∀ (c i:Nat) (x:Option AV) (σ:Store),i+c=5->Up l i σ ->
   compW elt ok (.loc 1) (fun uu=>True) ((List.range' i c).map nz) ((List.range i).map dthing) [none,x,none,some (.cell 2)] (4+3*i) σ Q
 | 0,i,x,σ,h,U=>by
  obtain rfl:i=5:=by omega
  exact ⟨trivial,hQ σ U⟩
 | c+1,i,x,σ,h,U=>by
  refine ⟨trivial,okI rfl (hok _ _ _ _ (he i σ _ (by exact om131 h) U fun σ' U'=>?_))⟩
  have e:(List.range i).map dthing ++ [dthing i]=(List.range (i+1)).map dthing:=by rw [List.range_succ,List.map_append];rfl
  rw [e]
  exact comp5 hok he hQ c (i+1) _ σ' (by exact om130 h) U'
noncomputable def p0:PS:=⟨[0,1,2],fun uu=>3,fun uu=>[],mu,23⟩
noncomputable def l0 (nums:List Int) (pos stir:Int):LS:=⟨[0,1,2],fun uu=>3,fun uu=>[],nums,pos,stir⟩
theorem ok0:Ok p0:=⟨by decide,by decide,fun uu=>(by decide:(1:Int)<=3/\(3:Int)<=3),fun uu=>⟨nofun,List.nodup_nil⟩,fun i=>by show mu i=2∨mu i=3∨mu i=4∨mu i=8;unfold mu;exact om104⟩
noncomputable def vars44a (sc nums:AV):Vars:=[some sc,some nums,some (.cell 0),none,none,none,none,none,none,none,none,none,none,none,none,none,none,none,none,none,none,none,none,none,none,none,none,none,none,none,none,none]
noncomputable def vars44b (sc nums:AV) (v7:Option AV):Vars:=[some sc,some nums,some (.cell 0),some (.cell 2),none,some thingsV,some (.cell 21),v7,none,none,none,none,none,none,none,none,none,none,none,none,none,none,none,none,none,none,none,none,none,none,none,none]
theorem setup3 {nums:List Int} {stir:Int} {σ6 σ3:Store} {ep7:Nat} {r stir6:Int} (U3:Up (l0 nums 0 stir) 5 σ3) (W:WellOk (l0 nums 0 stir)) (a1:0<=r) (a2:r < 3) (a3:0<=stir6) (a4:stir6 < 100043) (t8:σ6 21=some (.dict 2 (stateE (4+r) (l0 nums 1 stir6)) ep7)) (w6:σ6 0=some (.list [.lst (nums.map .int),.int 1,.int stir6]))
  (t1:σ6 19=some (.list (List.replicate 5 (.int 3)))) (t2:σ6 20=some (.list [.lst [],.lst [],.lst [],.lst [],.lst []])) (lo:∀ j,j < 19->j≠0->σ6 j=σ3 j) {sc nv:AV} {N:PostN} {RR XX:PostV}
  (h:∀ most k σ stir',4<=most->most<=6->Rel most σ k p0 (l0 nums 1 stir')->WellOk (l0 nums 1 stir')->exW (L (n+4)) (sDrop 6 b44) (vars44 sc nv none none) k σ N RR XX) :
  exW (L (n+4)) (sDrop 5 b44) (vars44b sc nv none) 22 σ6 N RR XX:=by
 refine onD t8 (w50 (nQ 22) (upd_same _ _ _) fun σ9 h9 d9 low9=>?_)
 have lo9:∀ j,j < 22->σ9 j=σ6 j:=fun j hj=>(low9 j (nX hj) (nH hj)).trans (upd_other _ _ (nH hj))
 have lo3:∀ j,j < 19->j≠0->σ9 j=σ3 j:=fun j hj h0=>(lo9 j (by exact om14 hj rfl)).trans (lo j hj h0)
 refine h (4+r) 24 σ9 stir6 (by exact om137 a1) (by exact om138 a2) ⟨nB _,(lo9 0 (by decide)).trans w6,(lo3 1 (by decide) (by decide)).trans U3.lim,(lo3 2 (by decide) (by decide)).trans U3.mem,U3.made.imp fun uu e=>(lo3 3 (by decide) (by decide)).trans e,
  fun i hi=>(lo3 _ (by exact om5 hi rfl) (by exact om1 rfl)).trans (U3.body i hi),fun i hi=>(U3.ent i hi).imp fun uu e=>(lo3 _ (by exact om5 hi rfl) (by exact om1 rfl)).trans e,(lo9 19 (by decide)).trans t1,(lo9 20 (by decide)).trans t2,⟨ep7,(lo9 21 (by decide)).trans t8⟩,h9,d9,nB _,nQ _⟩
  ⟨W.nums,W.len,(by decide:(0:Int)<=1/\(1:Int) < 1000),a3,a4⟩
theorem setup2 {nums:List Int} {stir:Int} {σ2:Store} (U:Up (l0 nums 0 stir) 0 σ2) (W:WellOk (l0 nums 0 stir)) {sc nv:AV} {N:PostN} {RR XX:PostV}
  (h:∀ most k σ stir',4<=most->most<=6->Rel most σ k p0 (l0 nums 1 stir')->WellOk (l0 nums 1 stir')->exW (L (n+4)) (sDrop 6 b44) (vars44 sc nv none none) k σ N RR XX) :
  exW (L (n+4)) (sDrop 3 b44) ((vars44a sc nv).set 3 (some (.cell 2))) 4 σ2 N RR XX:=by
 refine ex_asg ?_
 refine comp_range (m:=5) (by decide) ?_
 refine comp5 (l:=l0 nums 0 stir) (fun vars k σ Qb h=>h) (fun i σ Q hi U hQ=>elt5 U hi hQ) (fun σ3 U3=>?_) 5 0 none σ2 rfl U
 refine and3 (by decide) (by decide) (w28g (l:=l0 nums 0 stir) ((upd_other _ _ (by decide)).trans ((upd_other _ _ (by decide)).trans U3.well)) (by decide) W (size:=3) (by decide) fun r σ6 stir6 a1 a2 a3 a4 w6 low6=>smI (by exact om20 a1 a2 rfl) fun ep7=>?_)
 refine setup3 (ep7:=ep7) U3 W a1 a2 a3 a4 (upd_same _ _ _) ((upd_other _ _ (by decide)).trans w6) ?_ ?_ (fun j hj h0=>?_) h
 ·exact (upd_other _ _ (by decide)).trans ((low6 19 (by decide) (by decide)).trans ((upd_other _ _ (by decide)).trans (upd_same _ _ _)))
 ·exact (upd_other _ _ (by decide)).trans ((low6 20 (by decide) (by decide)).trans (upd_same _ _ _))
 ·exact (upd_other _ _ (by exact om15 hj rfl)).trans ((low6 j (by exact om14 hj rfl) h0).trans ((upd_other _ _ (by exact om15 hj rfl)).trans (upd_other _ _ (by exact om15 hj rfl))))
theorem setup {nums:List Int} {stir:Int} (W:WellOk (l0 nums 0 stir)) {sc nv:AV} {N:PostN} {RR XX:PostV}
  (h:∀ most k σ stir',4<=most->most<=6->Rel most σ k p0 (l0 nums 1 stir')->WellOk (l0 nums 1 stir')->exW (L (n+4)) (sDrop 6 b44) (vars44 sc nv none none) k σ N RR XX) :
  exW (L (n+4)) (sDrop 2 b44) (vars44a sc nv) 1 (upd (fun uu=>none) 0 (.list [.lst (nums.map .int),.int 0,.int stir])) N RR XX:=by
 refine w67 (nQ 1) (upd_same _ _ _) fun σ1 h1 low1=>w68 (nQ 2) (upd_same _ _ _) fun σ2 ep2 h2 d2 low2=>?_
 exact setup2 ⟨(low2 0 (by decide) (by decide)).trans ((upd_other _ _ (by decide)).trans ((low1 0 (by decide) (by decide)).trans ((upd_other _ _ (by decide)).trans (upd_same _ _ _)))),(low2 1 (by decide) (by decide)).trans ((upd_other _ _ (by decide)).trans h1),h2,⟨ep2,d2⟩,fun j hj=>absurd hj (nW j),fun j hj=>absurd hj (nW j)⟩ W h
theorem looks44 (R:Rel most σ k p l) (O:Ok p) (S:Sim p l) (W:WellOk l) (hp:l.pos < 300) {sc nv:AV} {x4 x8:Option AV} {N:PostN} {RR XX:PostV} (h:∀ k' σ',RR (.bool true) k' σ') :
  exW (L (n+13)) (sDrop 7 b44) (vars44 sc nv x4 x8) k σ N RR XX:=by
 refine (ex_range (m:=5) (by decide) (fun uu vars k' σ'=>∃ x4,vars=vars44 sc nv x4 x8/\Still k σ k' σ') (fun j hj vars k' σ' hJ=>?_) (fun vars k' σ' hJ=>?_) ⟨x4,rfl,Still.refl k σ⟩)
 ·obtain ⟨x4,e1,St⟩:=hJ
  subst e1
  exact ⟨_,rfl,fun N' hN'=>w42 (n:=n+6) (R.still St) O S hj fun k4 σ4 S4=>hN' _ _ _ ⟨_,rfl,St.trans S4⟩⟩
 ·obtain ⟨x4,e1,St⟩:=hJ
  subst e1
  exact tail44 (n:=n+5) (R.still St) O S W (by exact om59 hp rfl) h
theorem deeds44 {nums:List Int} {stir:Int} (R:Rel most σ k p0 (l0 nums 1 stir)) (W1:WellOk (l0 nums 1 stir)) (m2:most<=6) {sc nv:AV} {N:PostN} {RR XX:PostV} (h:∀ k' σ',RR (.bool true) k' σ') :
  exW (L (n+13)) (sDrop 6 b44) (vars44 sc nv none none) k σ N RR XX:=by
 refine w28 R W1 (size:=10) (by decide) fun r σ2 stir2 a1 a2 a3 a4 R2=>?_
 obtain ⟨m,e1⟩:∃ m:Nat,r=m:=⟨r.toNat,by exact om42 a1⟩
 subst e1
 refine smI (by exact om100 a2 rfl) ?_
 rw [show (3:Int)+(m:Int)=((3+m:Nat):Int) from rfl]
 refine smI (by exact om102 a2 rfl) (cT rfl (cT (rng_up (by exact om101 a2 rfl)) (few_up (by exact om101 a2 rfl) (for_up (fun j vars k' σ'=>∃ x8 p l,vars=vars44 sc nv none x8/\Rel most σ' k' p l/\Ok p/\Sim p l/\WellOk l/\l.pos<=2+(j:Int))
  (fun j hj vars k' σ' hJ=>?_) (fun vars k' σ' hJ=>?_) ⟨none,p0,_,rfl,R2,ok0,⟨rfl,rfl,rfl⟩,⟨W1.nums,W1.len,(by decide:(0:Int)<=1+1/\(1:Int)+1 < 1000),a3,a4⟩,(by decide:(1:Int)+1<=2+((0:Nat):Int))⟩))))
 ·obtain ⟨x8,p,l,e1,R3,O3,S3,W3,hp⟩:=hJ
  subst e1
  have wp:=W3.pos
  refine ⟨_,rfl,fun N' hN'=>w28 R3 W3 (by decide) fun cell σ4 stir4 b1 b2 b3 b4 R4=>w39 (n:=n+2) R4 O3 ⟨S3.stk,S3.acc,S3.prs⟩ m2 b1 b2 fun k5 σ5 p5 l5 hk5 R5 O5 S5 n5 pos5 st5=>?_⟩
  exact hN' _ _ _ ⟨_,p5,l5,rfl,R5,O5,S5,⟨n5▸W3.nums,n5▸W3.len,by rw [pos5];dsimp only;omega,by rw [st5];exact ⟨b3,b4⟩⟩,by rw [pos5];dsimp only;omega⟩
 ·obtain ⟨x8,p,l,e1,R3,O3,S3,W3,hp⟩:=hJ
  subst e1
  exact looks44 R3 O3 S3 W3 (by exact Int.lt_of_le_of_lt hp (Int.lt_of_le_of_lt (Int.add_le_add_left (Int.ofNat_le.mpr (om101 a2 (n:=13) rfl)) 2) (by decide:(2:Int)+(13:Nat) < 300))) h
theorem w44 (script:List Int) (hlen:script.length<=63) (h:∀ k' σ',Q (.bool true) k' σ'):L (n+14) (.fn 44) [.lst (script.map .int)] 0 (fun uu=>none) Q X:=by
 refine run_fn (fn:=fn44) rfl rfl rfl (fewM 63 hlen rfl ?_)
 have htl:(script.take 20).length<=20:=List.length_take_le _ _
 have key:∀ {items r:List AV} {elt:Vars->Nat->Store->PostV->Prop} {ok:Vars->Nat->Store->(Bool->Nat->Store->Prop)->Prop} {t:T} {inv:Store->Prop} {vars:Vars} {T:List AV->Nat->Store->Prop},items=r->few r (compW elt ok t inv r [] vars 0 (fun uu=>none) T)->few items (compW elt ok t inv items [] vars 0 (fun uu=>none) T):=fun e h=>by subst e;exact h
 refine key (List.map_take (f:=AV.int) (l:=script) (i:=20)).symm (fewM 20 htl rfl (comp_mapA (f:=fun i=>.int (Int.fmod i 1000003)) (fun vars=>∃ x y,vars=[none,x,y]) (fun k' σ'=>k'=0/\σ'=fun uu=>none) (fun uu uu uu=>trivial) ⟨none,none,rfl⟩ ⟨rfl,rfl⟩ (fun vars k σ Qb h=>h) (fun i hi vars hV=>?_) fun k' σ' hJ=>?_))
 ·obtain ⟨x,y,e⟩:=hV
  subst e
  exact ⟨_,rfl,⟨_,_,rfl⟩,fun k' σ' Qe hJ hQ=>And.intro (by decide) (hQ _ _ hJ)⟩
 obtain ⟨e1,e2⟩:=hJ
 subst e1 e2
 have nb:∀ x∈(script.take 20).map (fun i=>Int.fmod i 1000003),0<=x/\x < 1000003:=fun x hx=>by
  obtain ⟨i,_,e⟩:=List.mem_map.mp hx
  exact e▸fmodB (by decide)
 have nl:((script.take 20).map (fun i=>Int.fmod i 1000003)).length<=20:=nY (as:=script.take 20) _▸htl
 have en:((script.take 20).map fun i=>AV.int (Int.fmod i 1000003))=((script.take 20).map fun i=>Int.fmod i 1000003).map AV.int:=List.map_map.symm
 rw [en]
 generalize (script.take 20).map (fun i=>Int.fmod i 1000003)=nums at nb nl
 have hi:intsAll (nums.map AV.int)=some nums:=(intsAll_f id nums).trans (congrArg some (List.map_id nums))
 have hs:allSmall nums=true:=nC1.mpr fun x hx=>by
  have:=nb x hx
  exact nJ (by omega)
 have b:=fmodB (x:=nums.sum) (y:=9949) (by decide)
 refine okI (o:=intsAll (nums.map AV.int)) hi (cT hs (fewM 20 nl rfl (And.intro (by decide) (smI (by exact om19 b rfl) (smI (by decide) ?_)))))
 exact setup (n:=n+9) (nums:=nums) (stir:=Int.fmod nums.sum 9949+81) ⟨nb,nl,(by decide:(0:Int)<=0/\(0:Int) < 1000),by show (0:Int)<=Int.fmod nums.sum 9949+81/\Int.fmod nums.sum 9949+81 < 100043;exact om146 b.1 b.2 rfl⟩ fun most k σ stir' m1 m2 R W1=>deeds44 R W1 m2 fun k' σ'=>h k' (restr 0 σ')
end
end B
section
theorem qBool_e {v:Value} {c:Bool->Bool} {C:Value->Prop} (h:qBool v c=true) (f:∀ i,c i=true->C (.bool i)):C v:=@Value.casesOn (fun v=>qBool v c=true->C v) v fz0 fz0 fz0 f fz2 fz2 fz2 fz2 fz1 fz1 fz1 h
theorem qNone_e {v:Value} {C:Value->Prop} (h:qNone v=true) (f:C .none):C v:=@Value.casesOn (fun v=>qNone v=true->C v) v (fun uu=>f) fz0 fz0 fz1 fz2 fz2 fz2 fz2 fz1 fz1 fz1 h
theorem qInt_e {v:Value} {c:Int->Bool} {C:Value->Prop} (h:qInt v c=true) (f:∀ i t,c i=true->C (.int i t)):C v:=@Value.casesOn (fun v=>qInt v c=true->C v) v fz0 fz0 fz0 fz1 f fz2 fz2 fz2 fz1 fz1 fz1 h
theorem qStr_e {v:Value} {c:Str->Bool} {C:Value->Prop} (h:qStr v c=true) (f:∀ i t,c i=true->C (.str i t)):C v:=@Value.casesOn (fun v=>qStr v c=true->C v) v fz0 fz0 fz0 fz1 fz2 fz2 f fz2 fz1 fz1 fz1 h
theorem qByt_e {v:Value} {c:Array UInt8->Bool} {C:Value->Prop} (h:qByt v c=true) (f:∀ i t,c i=true->C (.bytes i t)):C v:=@Value.casesOn (fun v=>qByt v c=true->C v) v fz0 fz0 fz0 fz1 fz2 fz2 fz2 f fz1 fz1 fz1 h
theorem qRef_e {v:Value} {c:Addr->Bool} {C:Value->Prop} (h:qRef v c=true) (f:∀ i,c i=true->C (.ref i)):C v:=@Value.casesOn (fun v=>qRef v c=true->C v) v fz0 fz0 fz0 fz1 fz2 fz2 fz2 fz2 fz1 fz1 f h
theorem qBlt_e {v:Value} {c:String->Bool} {C:Value->Prop} (h:qBlt v c=true) (f:∀ i,c i=true->C (.builtin i)):C v:=@Value.casesOn (fun v=>qBlt v c=true->C v) v fz0 fz0 fz0 fz1 fz2 fz2 fz2 fz2 fz1 f fz1 h
theorem qTyp_e {v:Value} {c:String->Bool} {C:Value->Prop} (h:qTyp v c=true) (f:∀ i,c i=true->C (.type i)):C v:=@Value.casesOn (fun v=>qTyp v c=true->C v) v fz0 fz0 fz0 fz1 fz2 fz2 fz2 fz2 f fz1 fz1 h
theorem dSeq_e {d:Data} {c:Array Value->Bool} {C:Data->Prop} (h:dSeq d c=true) (f:∀ i n,c i=true->C (.seq i n)):C d:=@Data.casesOn (fun d=>dSeq d c=true->C d) d fz0 fz1 f fz2 fz3 fz2 fz1 fz1 fz1 fz1 fz0 h
theorem dDict_e {d:Data} {c:Array DictEntry->Bool} {C:Data->Prop} (h:dDict d c=true) (f:∀ i n,c i=true->C (.dict i n)):C d:=@Data.casesOn (fun d=>dDict d c=true->C d) d fz0 fz1 fz2 f fz3 fz2 fz1 fz1 fz1 fz1 fz0 h
theorem dFunc_e {d:Data} {c:FuncData->Bool} {C:Data->Prop} (h:dFunc d c=true) (f:∀ i,c i=true->C (.func i)):C d:=@Data.casesOn (fun d=>dFunc d c=true->C d) d fz0 fz1 fz2 fz2 fz3 fz2 fz1 f fz1 fz1 fz0 h
theorem dCls_e {d:Data} {c:ClassData->Bool} {C:Data->Prop} (h:dCls d c=true) (f:∀ i,c i=true->C (.cls i)):C d:=@Data.casesOn (fun d=>dCls d c=true->C d) d fz0 fz1 fz2 fz2 fz3 fz2 fz1 fz1 f fz1 fz0 h
theorem dFld_e {d:Data} {c:Array Value->Bool} {C:Data->Prop} (h:dFld d c=true) (f:∀ i,c i=true->C (.fields i)):C d:=@Data.casesOn (fun d=>dFld d c=true->C d) d fz0 fz1 fz2 fz2 fz3 fz2 fz1 fz1 fz1 f fz0 h
theorem dPlain_e {d:Data} {C:Data->Prop} (h:dPlain d=true) (f:C .plain):C d:=@Data.casesOn (fun d=>dPlain d=true->C d) d (fun uu=>f) fz1 fz2 fz2 fz3 fz2 fz1 fz1 fz1 fz1 fz0 h
theorem bStmts_e {b:FuncBody} {c:List Stmt->Bool} {C:FuncBody->Prop} (h:bStmts b c=true) (f:∀ l,c l=true->C (.stmts l)):C b:=@FuncBody.casesOn (fun b=>bStmts b c=true->C b) b f fz1 h
theorem at_e {K:Frag} {a:Addr} {c:Obj->Bool} {C:Prop} (h:at_ K a c=true) (f:∀ o,K.lookup a=some o->c o=true->C):C:=by
 unfold at_ at h
 cases e:K.lookup a with
 | none=>rw [e] at h;exact ff h
 | some o=>rw [e] at h;exact f o e h
theorem arr0 {α:Type} {a:Array α} (h:a.toList.isEmpty=true):a=#[]:=Array.toList_eq_nil_iff.mp (List.isEmpty_iff.mp h)
theorem qRow_e {K:Frag} {hb:Heap} {v:Value} {c:Array Value->Bool} {C:Value->Prop} (X:K.In hb) (h:qRow K v c=true) (f:∀ a items n,hb.get? a=some (rowObj "tuple" items n)->c items=true->C (.ref a)):C v :=
 qRef_e h fun a h=>at_e h fun o e h=>by
  obtain ⟨cl,d,dt,sl⟩:=o
  refine band h fun h h4=>band h fun h h3=>band h fun h1 h2=>dSeq_e (C:=fun dt=>K.lookup a=some ⟨cl,d,dt,sl⟩->C (.ref a)) h4 (fun items n hc e=>?_) e
  obtain rfl:=eq_of_beq h1
  obtain rfl:=Option.isNone_iff_eq_none.mp h2
  obtain rfl:=arr0 h3
  exact f a items n (X _ _ e) hc
section
variable {w:World} {n0:Nat} {hb:Heap} {K T:Frag} {prog:Program}
theorem vr0_ok {a:AV} {v:Value} (h:vr0 a v=true):VR (P0 w n0) hb (fun uu=>none) a v:=by
 cases a
 case none=>exact qNone_e (C:=fun v=>v=.none) h rfl
 case bool b=>exact qBool_e (C:=fun v=>v=.bool b) h fun c e=>congrArg _ (eq_of_beq e)
 case int i=>exact qInt_e (C:=fun v=>∃ t,v=.int i t) h fun j t e=>⟨t,congrArg (Value.int · t) (of_decide_eq_true e)⟩
 case str i=>exact qStr_e (C:=fun v=>∃ t,v=.str i t) h fun j t e=>⟨t,congrArg (Value.str · t) (Fast.sEq_iff.mp e)⟩
 case bytes b=>exact qByt_e (C:=fun v=>∃ t,v=.bytes b.toArray t) h fun c t e=>⟨t,congrArg (Value.bytes · t) (Array.toList_inj.mp (of_decide_eq_true e))⟩
 case fn f=>exact qRef_e (C:=fun v=>v=.ref (faP f)) h fun r e=>congrArg _ (nE e)
 case cls f=>exact qRef_e (C:=fun v=>v=.ref (caP f)) h fun r e=>congrArg _ (nE e)
 case blt n=>exact qBlt_e (C:=fun v=>∃ s,bnames[n]?=some s/\v=.builtin s) h fun s e=>⟨s,eq_of_beq e,rfl⟩
 case typ n=>exact qTyp_e (C:=fun v=>∃ s,tnames[n]?=some s/\v=.type s) h fun s e=>⟨s,eq_of_beq e,rfl⟩
 all_goals exact ff h
theorem vrL_ok {f:AV->Value->Bool} (h:∀ (a:AV) (v:Value),f a v=true->VR (P0 w n0) hb (fun uu=>none) a v):∀ (as:List AV) (vs:List Value),vrL f as vs=true->VRs (P0 w n0) hb (fun uu=>none) as vs
 | [],_,e=>lNil_e (C:=fun l=>nilP l True) e trivial
 | a :: r,_,e=>lCons_e (C:=fun l=>consP l fun w ws=>VR _ _ _ a w/\VRs _ _ _ r ws) e fun v q e=>band e fun e1 e2=>⟨h a v e1,vrL_ok h r q e2⟩
theorem vrC_ok (X:K.In hb) (n:Nat):∀ (a:AV) (v:Value),vrC K n a v=true->VR (P0 w n0) hb (fun uu=>none) a v:=by
 induction n with
 | zero=>exact fun a v e=>vr0_ok e
 | succ n ih =>
  refine fun a v e=>(Bool.or_eq_true_iff.mp e).elim vr0_ok fun e=>?_
  cases a with
  | tup vs=>exact qRow_e (C:=fun v=>RowAt hb "tuple" (VRs (P0 w n0) hb (fun uu=>none) vs) v) X e fun a items n e h=>⟨a,items,n,rfl,e,vrL_ok ih _ _ h⟩
  | _=>exact ff e
theorem keyIs_eq (x:Str) (e:DictEntry):e.key.isStr x=keyIs x e:=by
 have q:∀ s:Str,(s==x)=Fast.sEq s x:=fun s=>Bool.eq_iff_iff.mpr (beq_iff_eq.trans Fast.sEq_iff.symm)
 unfold keyIs
 cases e.key <;> first | rfl | exact q _
theorem ns_of (X:K.In hb) {a:Addr} (h:nsC K a=true):hb.Ns a (getC K a):=at_e h fun o e h=>by
 obtain ⟨cl,d,dt,sl⟩:=o
 refine dDict_e (C:=fun dt=>K.lookup a=some ⟨cl,d,dt,sl⟩->hb.Ns a (getC K a)) h (fun es n h e=>⟨_,es,n,X _ _ e,rfl,fun x hx=>?_,fun x=>?_⟩) e
 ·exact qStr_e (C:=fun v=>∃ n t,v=.str n t) (nC1.mp h x (Array.mem_toList_iff.mpr hx)) fun n t uu=>⟨n,t,rfl⟩
 ·unfold getC esOf
  rw [e]
  unfold nsFind findBy
  rw [<- Array.find?_toList]
  exact congrArg (Option.map _) (congrArg (fun p=>List.find? p es.toList) (funext (keyIs_eq x)))
theorem look_mem {K:Frag} {a:Addr} {o:Obj} (h:K.lookup a=some o):(a,o)∈K:=by
 induction K with
 | nil=>exact nn h
 | cons p r ih =>
  rw [List.lookup_cons] at h
  cases e:a==p.1 with
  | true =>
   rw [e] at h
   exact nZ.mpr (.inl (Prod.ext (eq_of_beq e) (oJ h).symm))
  | false=>rw [e] at h;exact .tail _ (ih h)
theorem alive_of {o:Obj} (f:unfreed o=true):alive o=some o:=by
 obtain ⟨c,d,dt,sl⟩:=o
 cases dt <;> first | rfl | exact ff f
theorem get_of {h:Heap} {a:Addr} {o:Obj} (e:h.objs[a]?=some o) (f:unfreed o=true):h.get? a=some o:=by
 unfold Heap.get?
 rw [e]
 obtain ⟨c,d,dt,sl⟩:=o
 cases dt <;> first | rfl | exact ff f
theorem Kof_in {s:SharedT} {as:List Addr} (f:(Kof s.tree as).all (fun p=>unfreed p.2&&Nat.blt p.1 s.n)=true):Frag.In (Kof s.tree as) s.abs.heap:=fun a o e=>by
 have hm:=look_mem e
 obtain ⟨b,_,hb⟩:=List.mem_filterMap.mp hm
 obtain ⟨x,hx,e'⟩:=Option.map_eq_some_iff.mp hb
 cases e'
 exact band (nC1.mp f (a,o) hm) fun f1 f2=>(abs_get (nC f2) hx).trans (alive_of f1)
noncomputable def says (h:Heap):Prop:=∃ K T:Frag,K.In h/\T.In h/\chkB K T=true
theorem says_of {s:SharedT} (h:lookT s=true):says s.abs.heap:=band h fun h1 h=>band h fun h2 h3=>⟨_,_,Kof_in h1,Kof_in h2,h3⟩
theorem says_keeps {h h':Heap} (y:says h) (k:∀ b o,h.get? b=some o->h'.get? b=some o):says h':=y.elim fun K y=>y.elim fun T y=>⟨K,T,y.1.keeps k,y.2.1.keeps k,y.2.2⟩
noncomputable def blank:Obj:=⟨.none,none,.freed,#[]⟩
noncomputable def heapG (K:Frag) (m a:Nat) (o:Obj):Heap:=⟨((List.range m).map fun i=>cond (Nat.beq i a) o ((K.lookup i).getD blank)).toArray,{}⟩
theorem heapG_at (K:Frag) (m a:Nat) (o:Obj) (b:Nat):(heapG K m a o).objs[b]?=cond (Nat.blt b m) (some (cond (Nat.beq b a) o ((K.lookup b).getD blank))) none:=by
 unfold heapG
 rw [List.getElem?_toArray,List.getElem?_map]
 cases h:Nat.blt b m with
 | true=>rw [List.getElem?_range (nC h)];rfl
 | false=>rw [List.getElem?_eq_none (by rw [List.length_range];exact nK.mp fun q=>ff (h.symm.trans (nJ q)))];rfl
theorem heapG_get {m a:Nat} {o:Obj} {b:Addr} {x:Obj} (h:(heapG K m a o).get? b=some x):(b=a/\x=o)∨K.lookup b=some x:=by
 have pick:∀ {y:Obj},(match some y with | some ⟨_,_,.freed,_⟩=>none | o=>o)=some x->x=y:=fun {y} h=>by
  obtain ⟨c,d,dt,sl⟩:=y
  cases dt <;> first | exact (oJ h).symm | exact nn h
 unfold Heap.get? at h
 rw [heapG_at] at h
 cases hb:Nat.blt b m with
 | false=>rw [hb] at h;exact nn h
 | true =>
  rw [hb] at h
  cases e:Nat.beq b a with
  | true=>rw [e] at h;exact .inl ⟨nE e,pick h⟩
  | false =>
   rw [e] at h
   cases q:K.lookup b with
   | none=>rw [q] at h;exact nn h
   | some o'=>rw [q] at h;exact .inr (congrArg some (pick h).symm)
theorem heapG_self {m a:Nat} {o:Obj} (f:unfreed o=true) (h:a < m):(heapG K m a o).get? a=some o:=get_of (by rw [heapG_at,show Nat.blt a m=true from nJ h,Nat.beq_refl];rfl) f
theorem heapG_in {m a:Nat} {o:Obj} {b:Addr} {x:Obj} (f:unfreed x=true) (hlt:b < m) (hK:K.lookup b=some x) (hne:b≠a):(heapG K m a o).get? b=some x :=
 get_of (by rw [heapG_at,show Nat.blt b m=true from nJ hlt,hK,show Nat.beq b a=false from Bool.eq_false_iff.mpr fun q=>hne (nE q)];rfl) f
theorem sys_all (h:sysC K=true) {a:Addr} {o:Obj} (e:K.lookup a=some o):unfreed o=true/\o.cls≠.type "frame"/\a < 1400 :=
 band h fun h uu=>band (nC1.mp h (a,o) (look_mem e)) fun h h3=>band h fun h1 h2=>⟨h1,fun q=>by rw [show (o.cls==.type "frame")=true from beq_iff_eq.mpr q] at h2;exact ff h2,nC h3⟩
noncomputable def heapK (K:Frag):Heap:=heapG K 1400 1400 blank
theorem heapK_in (h:sysC K=true):K.In (heapK K):=fun a o e=>heapG_in (sys_all h e).1 (sys_all h e).2.2 e (nH (sys_all h e).2.2)
theorem heapG_end {m:Nat} {o:Obj}:(heapG K m m o).get? m=none:=by
 unfold Heap.get?
 rw [heapG_at,show Nat.blt m m=false from Bool.eq_false_iff.mpr fun q=>nT m (nC q)]
 rfl
theorem heapK_get {a:Addr} {o:Obj} (h:(heapK K).get? a=some o):K.lookup a=some o:=(heapG_get h).elim (fun q=>nn (heapG_end.symm.trans (q.1▸h))) id
noncomputable def baseOf (prog:Program) (w:World) (n0:Nat) (K:Frag):Base:=⟨P0 w n0,prog,w,heapK K,K⟩
end
end
section
theorem hasN_mem {x:Nat}:∀ {l:List Nat},hasN l x=true->x∈l
 | [],h=>ff h
 | e :: r,h=>beq_n (C:=fun b=>cond b true (hasN r x)=true->x∈e :: r) (fun q uu=>nZ.mpr (.inl q.symm)) (fun h=>.tail _ (hasN_mem h)) h
where
 beq_n {a b:Nat} {C:Bool->Prop} (f:a=b->C true) (g:C false):C (Nat.beq a b):=by
  cases q:Nat.beq a b with
  | true=>exact f (nE q)
  | false=>exact g
theorem lookN_mem {x f:Nat}:∀ {l:List (Nat×Nat)},lookN l x=some f->(x,f)∈l
 | [],h=>nn h
 | e :: r,h=>hasN_mem.beq_n (C:=fun b=>cond b (some e.2) (lookN r x)=some f->(x,f)∈e :: r) (fun q h=>nZ.mpr (.inl (Prod.ext q.symm (oJ h).symm))) (fun h=>.tail _ (lookN_mem h)) h
theorem getD_end {α:Type} {l:List α} {c:Nat} {d:α} (h:l.length<=c):l.getD c d=d:=(List.getD_eq_getElem?_getD ..).trans (congrArg (Option.getD · d) (List.getElem?_eq_none h))
theorem getD_in {α:Type} {l:List (List α)} {c m:Nat} {x:α} (h:x∈l.getD c []) (hl:l.length=m):c < m:=Decidable.byContradiction fun q=>by
 rw [getD_end (hl▸nK.mp q)] at h
 exact nomatch h
section
variable {w:World} {n0:Nat} {K T:Frag} {prog:Program}
theorem cls_at (h:clsAll K=true) {c:Nat} (h7:c < 7) (h0:c≠0):plainGet K (caP c) Str.empty=true/\hasDictIn K (caP c)=true/\findIn K (.ref (caP c)) "__setattr__"=some (some (.builtin "object.__setattr__"))/\plainOver K (caP c)=true :=
 (Bool.or_eq_true_iff.mp (nC1.mp h c (List.mem_range.mpr h7))).elim (fun q=>absurd (nE q) h0) fun q=>band q fun q1 q=>band q fun q2 q=>band q fun q3 q4=>⟨q1,q2,eq_of_beq q3,q4⟩
theorem clsFacts (X:K.In (heapK K)) (h1:clsAll K=true) (h2:ownAll K=true) (h3:pairAll methL (metC K)=true) (h4:pairAll propL (propC K)=true) (h5:makeAll K=true):ClsFacts (baseOf prog w n0 K):=by
 have own:∀ c x,fieldOk c x=true->c < 7/\c≠0/\ownC K c x=true:=fun c x hx=>by
  have hm:=hasN_mem hx
  have h7:c < 7:=getD_in hm rfl
  exact ⟨h7,fun q=>by subst q;exact (nomatch hm),nC1.mp (nC1.mp h2 c (List.mem_range.mpr h7)) x hm⟩
 have pr:∀ {l:List (List (Nat×Nat))} {ck:Nat->Nat->Nat->Bool} {c x f:Nat},pairAll l ck=true->l.length=7->l.getD 0 []=[]->lookN (l.getD c []) x=some f->c < 7/\c≠0/\ck c x f=true:=fun {l ck c x f} h hl h0 hx=>by
  have hm:=lookN_mem hx
  have h7:c < 7:=getD_in hm hl
  exact ⟨h7,fun q=>by subst q;rw [h0] at hm;exact (nomatch hm),nC1.mp (nC1.mp h c (List.mem_range.mpr h7)) _ hm⟩
 refine ⟨X,fun c x hx=>?_,fun c x f hx=>?_,fun c x f hx=>?_,fun c x hx=>?_,fun c g hg=>?_⟩
 ·refine eD3 (own c x hx) fun h7 h0 o=>?_
  refine eD3 (cls_at h1 h7 h0) fun a1 a2 uu=>?_
  exact ⟨a1,a2,band o fun o uu=>oSome_e (C:=fun v=>∃ attr,v=some attr/\noGet K attr=true) o fun v hv=>⟨v,rfl,hv⟩⟩
 ·refine eD3 (pr h4 rfl rfl hx) fun h7 h0 o=>?_
  refine eD3 (cls_at h1 h7 h0) fun a1 a2 uu=>?_
  exact ⟨a1,a2,oSome_e (C:=fun v=>∃ p rest,v=some (some (.ref p))/\specialIn K (.ref p) "__get__"=some (some (.builtin "property.__get__"))/\takesIn K (.ref p)=some true/\recIn K p "property"=some (.ref (faP f) :: rest)) o fun v o =>
   oSome_e (C:=fun v=>∃ p rest,some v=some (some (.ref p))/\specialIn K (.ref p) "__get__"=some (some (.builtin "property.__get__"))/\takesIn K (.ref p)=some true/\recIn K p "property"=some (.ref (faP f) :: rest)) o fun v o =>
   qRef_e (C:=fun v=>∃ p rest,some (some v)=some (some (.ref p))/\specialIn K (.ref p) "__get__"=some (some (.builtin "property.__get__"))/\takesIn K (.ref p)=some true/\recIn K p "property"=some (.ref (faP f) :: rest)) o fun p o =>
   band o fun o1 o=>band o fun o2 o3=>(oSome_e (C:=fun v=>∃ rest,v=some (Value.ref (faP f) :: rest)) o3 fun l o=>lCons_e (C:=fun v=>∃ rest,some v=some (Value.ref (faP f) :: rest)) o fun v r o=>qRef_e (C:=fun v=>∃ rest,some (v :: r)=some (Value.ref (faP f) :: rest)) o fun q o=>⟨r,nE o▸rfl⟩).elim
    fun rest e=>⟨p,rest,rfl,eq_of_beq o1,eq_of_beq o2,e⟩⟩
 ·refine eD3 (pr h3 rfl rfl hx) fun h7 h0 o=>?_
  refine eD3 (cls_at h1 h7 h0) fun a1 a2 uu=>?_
  exact ⟨a1,a2,band o fun o1 o2=>⟨eq_of_beq o1,o2⟩⟩
 ·refine eD3 (own c x hx) fun h7 h0 o=>?_
  refine eD4 (cls_at h1 h7 h0) fun uu uu a3 a4=>?_
  exact ⟨a3,a4,band o fun uu o=>eq_of_beq o⟩
 ·have h7:c < 7:=Decidable.byContradiction fun q=>by
   unfold initOf at hg
   rw [getD_end (nK.mp q)] at hg
   exact nn hg
  have o:=nC1.mp h5 c (List.mem_range.mpr h7)
  rw [hg] at o
  exact band o fun o1 o=>band o fun o2 o=>band o fun o3 o4=>⟨o1,eq_of_beq o2,eq_of_beq o3,o4⟩
theorem isiFacts (h:isiC K=true):IsiFacts (baseOf prog w n0 K) :=
 band h fun q1 h=>band h fun q2 h=>band h fun q3 h=>band h fun q4 h=>band h fun q5 h=>band h fun q6 h=>band h fun q7 h=>band h fun q8 q9 =>
  ⟨q1,q2,eq_of_beq q3,eq_of_beq q4,eq_of_beq q5,eq_of_beq q6,eq_of_beq q7,fun T hT=>eq_of_beq (nC1.mp q8 T hT),eq_of_beq q9⟩
theorem slotL_e {l:List (Option Value)} {c:String->Bool} {C:List (Option Value)->Prop} (h:slotL l c=true) (f:∀ k0 k1 k2 k3 b k5,c b=true->C [k0,k1,k2,k3,some (.builtin b),k5]):C l :=
 lCons_e h fun k0 l h=>lCons_e (C:=fun l=>C (k0 :: l)) h fun k1 l h=>lCons_e (C:=fun l=>C (k0 :: k1 :: l)) h fun k2 l h=>lCons_e (C:=fun l=>C (k0 :: k1 :: k2 :: l)) h fun k3 l h=>lCons_e (C:=fun l=>C (k0 :: k1 :: k2 :: k3 :: l)) h fun v l h=>band h fun h1 h2 =>
  oSome_e (C:=fun v=>C (k0 :: k1 :: k2 :: k3 :: v :: l)) h1 fun v h1=>qBlt_e (C:=fun v=>C (k0 :: k1 :: k2 :: k3 :: some v :: l)) h1 fun b hb=>lOne_e (C:=fun l=>C (k0 :: k1 :: k2 :: k3 :: some (.builtin b) :: l)) h2 fun k5 uu=>f k0 k1 k2 k3 b k5 hb
theorem slot_e {o:Obj} {c:String->Bool} {C:Array (Option Value)->Prop} (h:slotC o c=true) (f:∀ k0 k1 k2 k3 b k5,c b=true->C #[k0,k1,k2,k3,some (.builtin b),k5]):C o.slots:=slotL_e (C:=fun l=>C l.toArray) h f
theorem cls_e {K:Frag} {a:Addr} {c:String->Bool} {cc:ClassData->Bool} {P:Prop} (h:at_ K a (fun o=>o.cls==.type "type"&&(slotC o c&&dCls o.data cc))=true)
  (f:∀ d cd k0 k1 k2 k3 b k5,c b=true->cc cd=true->K.lookup a=some ⟨.type "type",d,.cls cd,#[k0,k1,k2,k3,some (.builtin b),k5]⟩->P):P:=at_e h fun o e h=>band h fun e1 h=>band h fun e2 h=>by
 obtain ⟨cl,d,dt,sl⟩:=o
 obtain rfl:=eq_of_beq e1
 exact slot_e (o:=⟨.type "type",d,dt,sl⟩) (C:=fun sl=>K.lookup a=some ⟨.type "type",d,dt,sl⟩->P) e2 (fun k0 k1 k2 k3 b k5 hb e=>dCls_e (C:=fun dt=>K.lookup a=some ⟨.type "type",d,dt,#[k0,k1,k2,k3,some (.builtin b),k5]⟩->P) h (fun cd h e=>f d cd k0 k1 k2 k3 b k5 hb h e) e) e
theorem codeC_ok {hb:Heap} (X:K.In hb) {cd:Value} {q:Str} (h:codeC K cd q=true):hb.CodeRec cd q :=
 qRef_e (C:=fun cd=>hb.CodeRec cd q) h fun c h=>at_e h fun o e h=>by
  obtain ⟨cl,d,dt,sl⟩:=o
  exact dFld_e (C:=fun dt=>K.lookup c=some ⟨cl,d,dt,sl⟩->hb.CodeRec (.ref c) q) h (fun vs h e =>
   (oSome_e (C:=fun v=>∃ t,v=some (.str q t)) h fun v h=>qStr_e (C:=fun v=>∃ t,some v=some (.str q t)) h fun n t h=>⟨t,congrArg (fun n=>some (Value.str n t)) (Fast.sEq_iff.mp h)⟩).elim fun t et=>⟨c,_,vs,t,rfl,X _ _ e,rfl,et⟩) e
theorem dflC_ok (X:K.In (heapK K)) {ds:List AV} {v:Value} (h:dflC K ds v=true):∃ es,DfltsAt (heapK K) v es/\VRs (P0 w n0) (heapK K) (fun uu=>none) ds es :=
 (Bool.or_eq_true_iff.mp h).elim (fun h=>band h fun h1 h2=>⟨[],.inl ⟨qNone_e (C:=fun v=>v=.none) h1 rfl,rfl⟩,lNil_e (C:=fun ds=>VRs (P0 w n0) (heapK K) (fun uu=>none) ds []) h2 trivial⟩) fun h =>
  qRow_e (C:=fun v=>∃ es,DfltsAt (heapK K) v es/\VRs (P0 w n0) (heapK K) (fun uu=>none) ds es) X h fun a items n e h=>⟨items.toList,.inr ⟨a,items,n,rfl,e,rfl⟩,vrL_ok (vrC_ok X 2) _ _ h⟩
theorem fnAt (X:K.In (heapK K)) (h:fnAll K=true) {f:Nat} {fn:Fn} (hf:Φ f=some fn):FnAt (baseOf prog w n0 K) lf f fn:=by
 have h8:f < 80:=(List.getElem?_eq_some_iff.mp hf).1
 have h:=nC1.mp h f (List.mem_range.mpr h8)
 refine at_e h fun o e h=>?_
 obtain ⟨cl,d,dt,sl⟩:=o
 refine dFunc_e (C:=fun dt=>K.lookup (faP f)=some ⟨cl,d,dt,sl⟩->FnAt (baseOf prog w n0 K) lf f fn) h (fun fd h e=>?_) e
 rw [hf] at h
 refine band h fun h1 h=>band h fun h2 h=>band h fun h3 h=>band h fun h4 h=>band h fun h5 h=>band h fun h6 h7=>?_
 refine eX1 (bStmts_e (C:=fun b=>∃ body,b=.stmts body/\chkFn lf fn fd.params body fd.scope=true) h1 fun l h=>⟨l,rfl,h⟩) fun body qA11=>eD2 qA11 fun hb hck=>?_
 refine eX1 (dflC_ok (w:=w) (n0:=n0) X h6) fun es qA12=>eD2 qA12 fun d1 d2=>?_
 refine ⟨_,fd,es,body,X _ _ e,rfl,hb,hck,nE h2,nE h3,lNil_e (C:=fun l=>l=[]) h4 rfl,codeC_ok X h5,d1,d2,fun c t q hq=>?_⟩
 have hq:cdoP fd.scope.names=some (c,t,q):=hq
 rw [hq] at h7
 exact band h7 fun a b=>⟨eq_of_beq a,Fast.sEq_iff.mp b⟩
theorem isName_e {e:Expr} {x:Str} {C:Expr->Prop} (h:isName e x=true) (f:∀ p,C (.Name x p)):C e:=eName_e h fun y p h=>Fast.sEq_iff.mp h▸f p
theorem lTwo_e {α:Type} {l:List α} {c:α->α->Bool} {C:List α->Prop} (h:lTwo l c=true) (f:∀ a b,c a b=true->C [a,b]):C l:=lCons_e h fun a r h=>lOne_e (C:=fun r=>C (a :: r)) h fun b h=>f a b h
theorem arg_e {a:Arg} {x:Str} (h:Fast.sEq a.arg x=true):∃ p q,a=⟨x,p,q⟩:=by
 obtain ⟨y,p,q⟩:=a
 exact ⟨p,q,congrArg (Arg.mk · p q) (Fast.sEq_iff.mp h)⟩
theorem loc_e {a:Str×NameKind} {x:Str} (h:(Fast.sEq a.1 x&&a.2==.local)=true):a=(x,.local):=by
 obtain ⟨y,k⟩:=a
 exact band h fun h1 h2=>Prod.ext (Fast.sEq_iff.mp h1) (by cases k <;> first | rfl | exact ff h2)
theorem vrs_one {P:Places} {g:Heap} {ρ:Rho} {a:AV}:∀ {ds:List Value},VRs P g ρ [a] ds->∃ d,ds=[d]
 | [],h=>h.elim
 | [d],_=>⟨d,rfl⟩
 | _ :: _ :: _,h=>h.2.elim
theorem initC_e {fd:FuncData} {P:Prop} (h:initC fd=true) (f:∀ a1 q1 a2 q2 r1 r2 r3 r4,fd.params.args=[⟨"self",a1,q1⟩,⟨"told",a2,q2⟩]->fd.body=.stmts [.Assign [.Attribute (.Name "self" r1) "told" r2] (.Name "told" r3) r4]->fd.scope.names=[(("self":Str),NameKind.local),(("told":Str),NameKind.local)]->P):P:=band h fun p1 h=>band h fun p2 p3=>by
 refine eX4 (lTwo_e (C:=fun l=>∃ a1 q1 a2 q2,l=[⟨"self",a1,q1⟩,⟨"told",a2,q2⟩]) p1 fun a b h=>band h fun h1 h2=>(arg_e h1).elim fun a1 q=>q.elim fun q1 e1=>(arg_e h2).elim fun a2 q=>q.elim fun q2 e2=>⟨a1,q1,a2,q2,by rw [e1,e2]⟩) fun a1 q1 a2 q2 ep=>?_
 have en:fd.scope.names=[(("self":Str),NameKind.local),(("told":Str),NameKind.local)]:=lTwo_e (C:=fun l=>l=[(("self":Str),NameKind.local),(("told":Str),NameKind.local)]) p3 fun a b h=>band h fun h1 h2=>by rw [loc_e h1,loc_e h2]
 refine eX4 (bStmts_e (C:=fun b=>∃ p1 p2 p3 p4,b=.stmts [.Assign [.Attribute (.Name "self" p1) "told" p2] (.Name "told" p3) p4]) p2 fun l h=>lOne_e (C:=fun l=>∃ p1 p2 p3 p4,FuncBody.stmts l=.stmts [.Assign [.Attribute (.Name "self" p1) "told" p2] (.Name "told" p3) p4]) h fun s h =>
  sAssign_e (C:=fun s=>∃ p1 p2 p3 p4,FuncBody.stmts [s]=.stmts [.Assign [.Attribute (.Name "self" p1) "told" p2] (.Name "told" p3) p4]) h fun gs e p h=>band h fun h h2=>lOne_e (C:=fun gs=>∃ p1 p2 p3 p4,FuncBody.stmts [.Assign gs e p]=.stmts [.Assign [.Attribute (.Name "self" p1) "told" p2] (.Name "told" p3) p4]) h fun g h =>
  eAttribute_e (C:=fun g=>∃ p1 p2 p3 p4,FuncBody.stmts [.Assign [g] e p]=.stmts [.Assign [.Attribute (.Name "self" p1) "told" p2] (.Name "told" p3) p4]) h fun o x p' h=>band h fun h h3=>isName_e (C:=fun o=>∃ p1 p2 p3 p4,FuncBody.stmts [.Assign [.Attribute o x p'] e p]=.stmts [.Assign [.Attribute (.Name "self" p1) "told" p2] (.Name "told" p3) p4]) h fun q1 =>
  isName_e (C:=fun e=>∃ p1 p2 p3 p4,FuncBody.stmts [.Assign [.Attribute (.Name "self" q1) x p'] e p]=.stmts [.Assign [.Attribute (.Name "self" p1) "told" p2] (.Name "told" p3) p4]) h2 fun q2=>⟨q1,p',q2,p,by rw [Fast.sEq_iff.mp h3]⟩) fun r1 r2 r3 r4 eb=>?_
 exact f _ _ _ _ _ _ _ _ ep eb en
theorem excFacts (X:K.In (heapK K)) (h:excC K=true) (hfa:fnAll K=true):ExcFacts (baseOf prog w n0 K):=by
 refine band h fun h0 h=>band h fun h1 h=>band h fun h2 h=>band h fun h3 h=>band h fun h4 h=>band h fun h5 h=>band h fun h6 h=>band h fun h7 h8=>⟨?_,eq_of_beq h1,eq_of_beq h2,eq_of_beq h3,eq_of_beq h4,eq_of_beq h5,eq_of_beq h6,h7,?_⟩
 ·refine cls_e h0 fun d cd k0 k1 k2 k3 b k5 hb h e=>?_
  obtain rfl:=eq_of_beq hb
  obtain ⟨nm,bs,mro,ns,q,hd,sn,sub,ab,col,del⟩:=cd
  refine band h fun m1 h=>band h fun m2 m3=>?_
  obtain rfl:=(eq_of_beq m1:mro=_)
  obtain rfl:=(m2:hd=true)
  obtain rfl:=(bnot m3:del=false)
  exact ⟨_,_,_,_,_,_,_,_,_,_,_,_,_,_,_,e⟩
 ·have FA:=fnAt (prog:=prog) (w:=w) (n0:=n0) (f:=45) X hfa rfl
  refine at_e h8 fun o e h=>?_
  obtain ⟨cl,d,dt,sl⟩:=o
  refine dFunc_e (C:=fun dt=>K.lookup (faP 45)=some ⟨cl,d,dt,sl⟩->_) h (fun fd h e=>?_) e
  refine eX4 FA.obj fun o fd' es body qA17=>eD11 qA17 fun f1 f2 f3 f4 uu uu f7 f8 f9 f10 uu=>?_
  obtain rfl:=oJ (f1.symm.trans (X _ _ e))
  cases f2
  refine initC_e h fun a1 q1 a2 q2 r1 r2 r3 r4 ep eb en=>headE (band (band f4 fun a uu=>a) fun a uu=>a) fun ha uu uu hk uu hco hge uu=>?_
  refine eX1 (vrs_one f10) fun d eA18x1=>?_;obtain rfl:=eA18x1
  exact ⟨_,fd,q1,q2,a1,a2,_,r1,r2,r3,r4,d,X _ _ e,rfl,ha.trans (congrArg (fun l=>(⟨[],l,none,[],[],none,fd.params.defaults⟩:Arguments)) ep),eb,en,hk,hco,hge,f7,f8,f9⟩
end
end
section
theorem tabs_said:(cdoL.all fun x=>tabP x.2.1==some (lname x.2.2))=true:=by kernel_rfl
section
variable {w:World} {n0:Nat} {K T:Frag} {prog:Program}
theorem globFacts (X:K.In (heapK K)) (h:globC K=true) (h1:nsC K mainGlobals=true) (h2:nsC K builtinsNs=true):GlobFacts (baseOf prog w n0 K) :=
 ⟨_,_,ns_of X h1,ns_of X h2,fun i hi=>by
  have h:oSome ((getC K mainGlobals (gname i)).casesOn (getC K builtinsNs (gname i)) some) (vrC K 3 (gval i))=true:=nC1.mp h i (List.mem_range.mpr hi)
  cases e:getC K mainGlobals (gname i) with
  | some v =>
   rw [e] at h
   exact ⟨v,.inl rfl,vrC_ok X 3 _ _ h⟩
  | none =>
   rw [e] at h
   cases e2:getC K builtinsNs (gname i) with
   | some v =>
    rw [e2] at h
    exact ⟨v,.inr ⟨rfl,rfl⟩,vrC_ok X 3 _ _ h⟩
   | none =>
    rw [e2] at h
    exact ff h⟩
theorem neFact (X:K.In (heapK K)) (h:thingC K=true):NeFact (baseOf prog w n0 K):=fun A z fs v b t Q E hu R hv hq=>by
 obtain ⟨a,d,es,n,rfl,e1,e2,e3⟩:=hv
 refine cls_e h fun d' cd k0 k1 k2 k3 b k5 hb h e=>?_
 obtain ⟨nm,bs,mro,ns,q,hd,sn,sub,ab,col,del⟩:=cd
 refine band h fun m1 h=>band h fun m2 h=>band h fun m3 h=>band h fun m4 m5=>?_
 obtain rfl:=(eq_of_beq m1:mro=_)
 obtain rfl:=(bnot m2:del=false)
 have XK:K.In z.s.heap:=X.keeps fun b o e=>R.stays b o (R.base b o e)
 obtain ⟨g,ρ,k,σ,⟨hh,gens,dr,tk,os⟩⟩:=z
 exact ne_inst_bytes (C:=101) (R.stays _ _ e1) rfl (XK _ _ e) (ns_of XK m3) (Option.isNone_iff_eq_none.mp m4) (Option.isNone_iff_eq_none.mp m5) (nF (nM (by decide) _) hu) hq
theorem cdo_in {ns:Names} {c t:Addr} {q:Str} (e:cdoP ns=some (c,t,q)):∃ s,(c,t,s)∈cdoL/\q=lname s:=by
 obtain ⟨⟨a,b,s⟩,hx,e⟩:=Option.map_eq_some_iff.mp e
 obtain ⟨i,_,hx⟩:=Option.bind_eq_some_iff.mp hx
 cases e
 exact ⟨s,List.mem_of_getElem? hx,rfl⟩
theorem lamFacts (X:K.In (heapK K)) (h:cdoAll K T=true) (hn:nsC K mainGlobals=true) (hb:(oSome (getC K mainGlobals ("__builtins__":Str)) (fun v=>qRef v fun a=>Nat.beq a 4)&&at_ K 4 fun o=>o.cls==.type "module"&&o.dict==some builtinsNs&&dPlain o.data)=true):LamFacts (baseOf prog w n0 K) lf:=by
 refine ⟨fun ns c t q e=>?_,fun ns e=>?_,fun ns e=>?_,fun l a b sc h=>?_⟩
 ·obtain ⟨s,hm,rfl⟩:=cdo_in e
  refine band (nC1.mp (Bool.and_eq_true_iff.mp h).1 _ hm) fun a1 h=>band h fun a2 h=>band h fun a3 a4=>?_
  have ne:∀ {x y:Nat},(!Nat.beq x y)=true->x≠y:=fun {x y} h e=>by
   subst e
   rw [Nat.beq_refl] at h
   exact ff h
  refine ⟨codeHd_of_K X a1,eq_of_beq (nC1.mp tabs_said _ hm),Ne.symm (ne a2),_,ns_of X hn,4,?_⟩
  exact band hb fun b1 hb=>at_e hb fun o e hb=>band hb fun hb b4=>band hb fun b2 b3=>⟨o,oSome_e (C:=fun v=>v=some (.ref 4)) b1 fun v h=>qRef_e (C:=fun v=>some v=some (.ref 4)) h fun a h=>by rw [nE h],by decide,by decide,Ne.symm (ne a3),X _ _ e,eq_of_beq b2,eq_of_beq b3,dPlain_e (C:=fun d=>d=.plain) b4 rfl⟩
 ·obtain ⟨i,hi⟩:=Option.isSome_iff_exists.mp e
  have h7:i < 7:=by
   unfold lamIdx at hi
   split at hi
   ·exact (List.findIdx?_eq_some_iff_getElem.mp hi).1
   ·exact nn hi
  obtain ⟨⟨c,t,s⟩,hx⟩:∃ x,cdoL[i]?=some x:=⟨_,nA1 (show i < cdoL.length from h7)⟩
  refine ⟨c,t,lname s,?_⟩
  show Option.map _ (Option.bind (lamIdx ns) _)=_
  rw [hi,Option.bind_some,hx]
  rfl
 ·show Option.map _ (Option.bind (lamIdx ns) _)=_
  rw [e]
  rfl
 ·exact oSome_e (C:=fun o=>∃ lm,o=some lm/\chkLm lm a b sc=true) h fun lm h=>⟨lm,rfl,h⟩
theorem kit0 (h:chkB K T=true):Kit0 (baseOf prog w n0 K) lf/\(∀ f fn,Φ f=some fn->FnAt (baseOf prog w n0 K) lf f fn) :=
 band h fun c1 h=>band h fun c2 h=>band h fun c3 h=>band h fun c4 h=>band h fun c5 h=>band h fun c6 h=>band h fun c7 h=>band h fun c8 h=>band h fun c9 h=>band h fun c10 h=>band h fun c11 c12 =>
  have X:=heapK_in c1
  band c1 fun uu h=>band h fun s2 h=>band h fun s3 h=>band h fun s4 h=>band h fun s5 h=>band h fun s6 s7 =>
   have f0:Facts0 (baseOf prog w n0 K):=⟨globFacts X c2 s2 s3,(Option.isSome_iff_exists.mp s6).elim fun o e=>⟨o,X _ _ e⟩⟩
   have cl:ClsFacts (baseOf prog w n0 K):=clsFacts X c3 c4 c5 c6 c7
   ⟨⟨f0,neFact X c10,cl,blt_ok f0 cl (isiFacts c8) rfl,typ_ok rfl,lamFacts X c12 s2 s7,excFacts X c9 c11,_,ns_of X s4,Option.isNone_iff_eq_none.mp s5⟩,fun f fn hf=>fnAt X c11 hf⟩
end
end
section
theorem ints_well {P:Params} {h:Heap} {Pl:Places} {g:Heap} {ρ:Rho}:∀ (xs:List Int) (vs:List Value),WellAll P h vs (xs.map .int)->VRs Pl g ρ (xs.map .int) vs
 | [],vs,w=>by cases w;exact trivial
 | x :: xs,vs,w=>by
  cases w with
  | cons a b=>cases a;exact ⟨⟨_,rfl⟩,ints_well xs _ b⟩
theorem tabs_in:(cdoL.all fun x=>tabL.contains x.2.1)=true:=by kernel_rfl
theorem tabFacts {K T:Frag} {h:Heap} (XK:K.In h) (XT:T.In h) (hc:cdoAll K T=true) {t:Addr} {q:Str} (hq:tabP t=some q):h.get? t=some (PySem.W.tabObj #[])/\K.lookup t=none/\∃ c o v,h.get? c=some o/\o.cls=.type "code"/\o.data=.fields v/\v[11]?=some (.ref t):=by
 refine eX1 (Option.map_eq_some_iff.mp hq) fun qA0x0 qA0=>eD2 qA0 fun hx uu=>?_;obtain ⟨c,t',s⟩:=qA0x0
 have q:=List.find?_some hx
 cases (eq_of_beq (show (t'==t)=true from q):t'=t)
 have hm:=List.mem_of_find?_eq_some hx
 refine band hc fun hc h2=>band (nC1.mp hc _ hm) fun a1 h=>band h fun uu h=>band h fun uu a4=>⟨?_,Option.isNone_iff_eq_none.mp a4,?_⟩
 ·refine at_e (nC1.mp h2 _ (List.contains_iff_mem.mp (nC1.mp tabs_in _ hm))) fun o e h=>band h fun e1 h=>band h fun e2 h=>band h fun e3 h=>?_
  obtain ⟨cl,d,dt,sl⟩:=o
  cases eq_of_beq e1
  cases Option.isNone_iff_eq_none.mp e2
  cases arr0 e3
  refine dFld_e (C:=fun dt=>T.lookup t=some ⟨.none,none,dt,#[]⟩->_) h (fun vs h e=>?_) e
  cases arr0 h
  exact XT _ _ e
 ·refine eX9 (codeHd_of_K XK a1) fun o vs uu uu uu uu uu uu uu qA2=>eD5 qA2 fun q1 q2 q3 q4 uu=>?_
  exact ⟨c,o,vs,q1,q2,q3,q4⟩
theorem walk (prog:Program) (w:World) (s:Shared) {mg:Str->Option Value} {fa a:Addr} {vs:List Value} {script:List Int} (Y:says s.heap) (hns:s.heap.Ns mainGlobals mg) (hmg:mg "law"=some (.ref fa))
  (ha:s.heap.get? a=some (rowObj "list" vs.toArray 0)) (hw:WellAll w.params s.heap vs (script.map .int)) (hlen:script.length<=63) :
  wpAny (model prog w) callerA (call (.ref fa) [.ref a]) (fun v s'=>v=.bool true/\OldK s.heap s'.heap/\s'.os=s.os/\s'.gens=s.gens) (fun uu uu=>False) s:=by
 refine eX2 Y fun K T qA3=>eD3 qA3 fun XK XT hc=>?_
 refine eD2 (kit0 (prog:=prog) (w:=w) (n0:=s.heap.objs.size) hc) fun K0 TX=>?_
 have CW:=(runs_ok K0 TX 14).1
 have tabs:∀ t q,tabP t=some q->_:=fun t q hq=>tabFacts XK XT (band hc fun uu h=>band h fun uu h=>band h fun uu h=>band h fun uu h=>band h fun uu h=>band h fun uu h=>band h fun uu h=>band h fun uu h=>band h fun uu h=>band h fun uu h=>band h fun uu h=>h) hq
 have c1:=band hc fun c1 uu=>c1
 have hfa:fa=faP 44:=by
  refine eX2 K0.f0.glob.mg fun mg' mb qA5=>eD3 qA5 fun n1 uu q=>?_
  have e1:mg' "law"=some (.ref fa):=((n1.keeps fun b o e=>XK _ _ (heapK_get e)).agree hns "law").trans hmg
  refine eX1 (q 44 (by decide)) fun v qA6=>eD2 qA6 fun e hv=>?_
  have e2:gname 44=("law":Str):=by kernel_rfl
  rw [e2,e1] at e
  rcases e with e | e
  ·obtain rfl:=oJ e
   exact Value.ref.inj hv
  ·exact nn e.1.symm
 let g:=heapG K (1400+a+1) a (rowObj "list" vs.toArray 0)
 have la:a < 1400+a+1:=Nat.lt_succ_of_le (Nat.le_add_left ..)
 let z:Z:=⟨g,fun uu=>none,0,fun uu=>none,s⟩
 have R:Rep (baseOf prog w s.heap.objs.size K) z:=by
  refine ⟨fun b x e=>?_,fun b x e=>(heapG_get e).elim (fun q=>q.1▸q.2▸ha) (XK _ _),fun b x e=>?_,fun i p e=>nn e,fun i c e=>nn e,fun i c p e=>nn e,fun i c p b e=>nn e,fun i j p q b e=>nn e,fun i p b e=>nn e,fun t q hq=>?_⟩
  ·have e1:=heapK_get e
   by_cases hb:b=a
   ·subst hb
    obtain rfl:=oJ (ha.symm.trans (XK _ _ e1))
    exact heapG_self rfl la
   ·exact heapG_in (sys_all c1 e1).1 (nD (sys_all c1 e1).2.2 (nA (nP 1400 a) (Nat.le_succ _))) e1 hb
  ·rcases heapG_get e with ⟨rfl,rfl⟩ | q
   ·exact fun q=>absurd q.1 (by simp)
   ·exact fun r=>(sys_all c1 q).2.1 r.1
  ·refine eD3 (tabs t q hq) fun t1 t2 uu=>?_
   refine ⟨?_,fun i p e=>nn e,#[],t1,trivial,fun pos cd e=>nn e⟩
   cases e:g.get? t with
   | none=>rfl
   | some x =>
    rcases heapG_get e with ⟨rfl,rfl⟩ | q'
    ·cases ha.symm.trans t1
    ·exact nn (t2.symm.trans q')
 have C:CxC (baseOf prog w s.heap.objs.size K) callerA [] 14 z:=⟨rfl,rfl,by decide,by decide,fun env he=>(nomatch he),nB _⟩
 refine wpAny_call (CW callerA [] z (.fn 44) [.lst (script.map .int)] (.ref fa) [.ref a] _ (fun uu uu uu=>False) (B.w44 (n:=0) (Q:=fun v uu uu=>v=.bool true) script hlen fun uu uu=>rfl) C R (congrArg Value.ref hfa) ⟨⟨a,vs.toArray,0,rfl,heapG_self rfl la,ints_well script _ hw⟩,trivial⟩ _ (fun z' v u G hv hq=>?_) fun z' v e G hr hx=>hx.elim)
 subst hq
 obtain rfl:=hv
 have old:∀ b o,s.heap.get? b=some o->tabP b=none->z'.s.heap.get? b=some o:=fun b o e ht=>(G.same b o e (fun q=>q.elim (fun q=>q.elim fun i q=>q.elim fun p q=>nn q.1) fun q=>q.elim id fun q=>Option.isSome_iff_exists.mp q |>.elim fun uu q=>nn (ht.symm.trans q))).elim id fun q=>absurd (Heap.lt_size e) (nK.mpr q.1)
 refine ⟨rfl,⟨fun b o e=>?_,fun b o e=>?_⟩,G.os,G.gens⟩
 ·cases ht:tabP b with
  | none=>exact .inl (old b o e ht)
  | some q =>
   obtain ⟨t1,_,c,oc,v,k1,k2,k3,k4⟩:=tabs b q ht
   obtain rfl:=oJ (t1.symm.trans e)
   obtain ⟨_,_,ps,e1,_⟩:=G.rep.tabs b q ht
   exact .inr (.inl ⟨⟨c,oc,v,k1,k2,k3,k4⟩,rfl,#[],ps,rfl,by rw [e1];simp⟩)
 ·cases ht:tabP b with
  | none=>exact ⟨_,old b o e ht⟩
  | some q =>
   obtain ⟨_,_,ps,e1,_⟩:=G.rep.tabs b q ht
   exact ⟨_,e1⟩
end
section
abbrev lawRow:RowW:=PySem.Challenge.rw_pb0520_01.row.toRowW
theorem pre_said {args:List WData} (h:lawRow.claim.pre args=true):∃ script:List Int,args=[.list (script.map .int)]/\script.length<=63:=by
 obtain ⟨h1,h2⟩:=pre_splitW h
 have h1:WShape.hasAll [] args [.list .int]=true:=h1
 obtain ⟨d,r,rfl,hd,hr⟩:=hasAllW_cons h1
 obtain rfl:=hasAllW_nil hr
 obtain ⟨xs,rfl,hx⟩:=hasW_list hd
 have hints:∀ xs:List WData,WShape.hasItems [] xs .int=true->∃ script:List Int,xs=script.map .int:=fun xs=>by
  induction xs with
  | nil=>intro _;exact ⟨[],rfl⟩
  | cons x r ih =>
   intro h
   have h:(WShape.has [] x .int&&WShape.hasItems [] r .int)=true:=h
   obtain ⟨e1,e2⟩:=Bool.and_eq_true_iff.mp h
   obtain ⟨i,rfl⟩:=hasW_int e1
   obtain ⟨s,rfl⟩:=ih e2
   exact ⟨i :: s,rfl⟩
 obtain ⟨script,rfl⟩:=hints xs hx
 refine ⟨script,rfl,?_⟩
 have h2:WTm.holds [] (.and (.not (.lt (.lit (.int 63)) (.len (.arg 0)))) (.lit (.bool true))) { args:=[.list (script.map .int)] }=true:=h2
 have h3:(fun b=>WTm.holds [] (.not (.lit (.bool b))) { args:=[] }) (decide ((63:Int) < (script.length:Int)))=true:=(congrArg (fun n:Nat=>(fun b=>WTm.holds [] (.not (.lit (.bool b))) { args:=[] }) (decide ((63:Int) < (n:Int)))) (nY (as:=script) WData.int)).symm.trans (holds_andW h2).1
 refine Nat.le_of_not_lt fun hl=>?_
 rw [decide_eq_true (show (63:Int) < (script.length:Int) from Int.ofNat_lt.mpr hl)] at h3
 exact Bool.noConfusion h3
theorem wnil {P:Params} {h:Heap} {vs:List Value} (x:WellAll P h vs []):vs=[]:=by cases x;rfl
noncomputable def isL (P:Params) (h:Heap) (v:Value) (d:WData):Prop:=WData.casesOn d True (fun uu=>True) (fun uu=>True) (fun uu=>True) (fun xs=>∃ a vs,v=.ref a/\h.get? a=some (rowObj "list" vs.toArray 0)/\WellAll P h vs xs) (fun uu=>True) (fun uu=>True) (fun uu=>True) (fun uu=>True) (fun uu=>True) (fun uu=>True) (fun uu=>True) (fun uu ux=>True)
theorem wlist {P:Params} {h:Heap} {v:Value} {xs:List WData} (x:Well P h v (.list xs)):isL P h v (.list xs):=by
 refine @Well.casesOn P h (fun v d uu=>isL P h v d) v (.list xs) x ?_ ?_ ?_ ?_ ?_ ?_ ?_ ?_ ?_ ?_ ?_ ?_ ?_
 case refine_8=>exact fun a b=>⟨_,_,rfl,a,b⟩
 all_goals intros;trivial
theorem fin {w:World} {s₀ s₁:Shared} {mg:Str->Option Value} {fa:Addr} {args:List WData} {vals:List Value} (Y:says s₁.heap) (hns:s₁.heap.Ns mainGlobals mg) (hmg:mg "law"=some (.ref fa)) (hg:s₁.gens=#[])
  (hpre:lawRow.claim.pre args=true) (hwl:WellAll w.params s₁.heap vals args) :
  wpAny (model lawRow.prog w) callerA (call (.ref fa) vals) (fun v s'=>GoodWG lawRow.claim (classAt s₀.heap) (ExcName.means s₀.heap) args s₁ (.ok (.ret v)) s')
   (fun e s'=>GoodWG lawRow.claim (classAt s₀.heap) (ExcName.means s₀.heap) args s₁ (.error e) s') s₁:=by
 refine eX1 (pre_said hpre) fun script q=>?_
 obtain rfl:=q.1
 refine eX2 (wellAll_cons_inv hwl) fun v vs q1=>eD3 q1 fun e w1 w2=>?_
 obtain rfl:=e
 obtain rfl:=wnil w2
 refine eX2 (wlist w1) fun a vs q2=>eD3 q2 fun e ha hw=>?_
 obtain rfl:=e
 refine wpAny_mono (walk lawRow.prog w s₁ Y hns hmg ha hw q.2) (fun v s' h=>?_) fun uu uu h=>h.elim
 refine eD4 h fun e hO hos hgs=>?_
 obtain rfl:=e
 exact ⟨.inl ⟨.bool true,.bool true,[],rfl,fun cls=>rfl,.bool true,postW_of rfl (w_eq_bool (w_res rfl) w_lit) rfl,fun uu=>⟨List.nodup_nil,fun a ha=>absurd ha (List.not_mem_nil)⟩⟩,hO,hos,.of_eq (hgs.trans hg)⟩
end
section
theorem runT_of {n₀:Nat} {ann:Option Value} {p:Program} {w:World}:∀ (n:Nat) (s s':SharedT) (t:Thread),runT n₀ ann p w n s t=some s'->topRun treeTable p w n₀ ann n s.abs t=some s'.abs
 | 0,_,_,_,h=>nn h
 | n+1,s,s',t,h=>by
  unfold runT at h
  unfold topRun
  rw [<- Fast.te6613529449190102663,<- Fast.te10156331382660048174,<- Fast.te11892475500146522536,<- Fast.te14364793385576792824] at h
  cases ht:through t with
  | true =>
   rw [ht] at h
   exact congrArg (fun o=>o.map SharedT.abs) h
  | false =>
   rw [ht] at h
   cases hk:stepOk n₀ ann t with
   | false =>
    rw [hk] at h
    exact nn h
   | true =>
    rw [hk] at h
    cases hs:stepT (denote treeTable) p w s t with
    | none =>
     rw [hs] at h
     exact nn h
    | some r =>
     rw [hs] at h
     rw [stepT_spec (s':=r.1) (t':=r.2) hs]
     exact runT_of n _ _ _ h
theorem s0_abs (P:Params) (os:OsState):(s0 P os).abs=⟨boot_heap P,#[],boot_drawn,boot_toks,os⟩:=by kernel_rfl
theorem open_plain:opening prog=plainProg prog.main.scope.names:=by kernel_rfl
theorem no_fence (s:Shared):fenceModules? prog s=some s:=by kernel_rfl
theorem boot_ns (P:Params):((boot_heap P).isNs mainGlobals&&(#[]:Array GenState).size==0)=true:=by kernel_rfl
noncomputable def seenB (s:Shared):Bool:=@decide (says s.heap) (Classical.propDecidable _)
theorem topFrom_of {w:World} {s s':Shared} {n:Nat} (h1:(s.heap.isNs mainGlobals&&s.gens.size==0)=true) (h2:topRun treeTable prog w s.heap.objs.size (s.heap.nsMap mainGlobals "__annotations__") n s (topStub prog)=some s') (h3:(staticsOk (importedModules prog.main.body) s.heap s'.heap&&namesBound prog s'.heap&&gensDone s'&&laidKept s.heap s'.heap)=true):topFrom treeTable prog w n s=some s':=by
 unfold topFrom
 rw [h1]
 dsimp only
 rw [h2,Option.bind_some,h3]
noncomputable abbrev bs (P:Params) (os:OsState):Shared:=⟨boot_heap P,#[],boot_drawn,boot_toks,os⟩
theorem top_ok {w:World} {os:OsState} {s':SharedT} (h:run w os=some s') (g:gl w.params s'=true):topFrom treeTable prog w 20000 (bs w.params os)=some s'.abs:=by
 have tr:=runT_of _ _ _ _ h
 rw [s0_abs] at tr
 exact topFrom_of (s:=bs w.params os) (boot_ns w.params) tr g
theorem enough:Nat.ble 600 20000=true:=by kernel_rfl
theorem left_ok:LeftO prog vw loose (fun s=>recOk [] s) seenB (fun uu=>true) 20000:=fun w=>by
 obtain ⟨s,hs,hv⟩:=Option.map_eq_some_iff.mp (boot_open (p:=prog) (N:=20000) open_plain enough no_fence w)
 obtain ⟨hp,g,d,k,os⟩:=s
 cases hv
 obtain ⟨s',h',hv'⟩:=Option.map_eq_some_iff.mp (looked w os)
 have g1:gl w.params s'=true:=congrArg (·.1) hv'
 have g2:sn s'=openGood vw loose:=congrArg (·.2.1) hv'
 have g3:lookT s'=true:=congrArg (·.2.2) hv'
 have q:=top_ok h' g1
 unfold openEnds
 rw [hs,Option.bind_some]
 unfold sn at g2
 rw [<- Fast.te4187177175401517315] at g2
 exact (congrArg (Option.map _) q).trans (congrArg some (Prod.ext g2 (@decide_eq_true _ (Classical.propDecidable _) (says_of g3))))
end
section
theorem row_holds (k1:row0.wellSaid=true):row0.Holds:=by
 refine holds_open (q:=vw) (loose:=loose) (Xt:=fun s=>recOk [] s) (XP:=fun uu uu=>True) (Yf:=seenB) (Ya:=fun uu=>true) (YP:=fun uu h=>says h) (d:=lawD.1) (kwd:=lawD.2) (N:=20000) left_ok
  (fun w s e=>@of_decide_eq_true _ (Classical.propDecidable _) e) (fun w h h' y k=>says_keeps y k) (fun uu uu=>trivial) (fun uu uu uu uu uu=>trivial) law_def law_the law_kw (fun s uu=>recFacts_nil law_rec) law_wr k1 law_ok law_bare ?hw
  fun w s₀ s₁ mg mb G Y a o pm cd doc dV kV h1 h2 h3 h4 h5 hg args vals as hpre hlay hrd hwl hlo=>fin Y G.T.g h5 hg hpre hwl
 case hw=>w_witness2
end
end Mine
theorem PySem.Challenge.cw_pb0520_01_holds : PySem.Challenge.rw_pb0520_01.Holds :=
holds_law Mine.law_said Mine.row_holds
