import PyProof.Rows.All
import Wide.All
import OpenK.AllK
import KE.KLam
import Wide.FinOn
import PyProof.Walk
import PyProof.WalkLemmas
import KE.KEqDict
import KE.BytesMake
import KE.KToBytes
import KE.KFromBytes
import OpenK.KMake
import PyProof.ExcClass3
import PyProof.ExcBaseAll.Exception
import PyProof.ExcArgs
import PyProof.InstStoreFacts
import KE.KNest
import PyProof.MaxThree
import KE.KDictSum
import PyProof.Rows.SortWalk
import PyProof.RangeFor
import KE.KPathFold
import PySem.Challenge.RW_og0218_01
open PySem PySem.W PyProof.Rows
set_option Elab.async false
set_option linter.all false
set_option autoImplicit false
set_option genSizeOf false
set_option genInjectivity false
set_option maxRecDepth 1000000
set_option maxHeartbeats 0
set_option tactic.hygienic false
noncomputable section
namespace Mine
abbrev qA := @PySem.wpAny_bind
abbrev qB := @PySem.wpAny_pure
abbrev qC := @Nat.le_trans
abbrev qD := @of_decide_eq_true
abbrev qE := @Heap.get?_push_of_some
abbrev qF := @congrArg
abbrev qG := @List.length_map
abbrev qH := @Nat.eq_of_beq_eq_true
abbrev qI := @Nat.le_add_right
abbrev qJ := @Option.some.inj
abbrev qK := @Heap.get?_push_size
abbrev qL := @Nat.lt_of_lt_of_le
abbrev qN := @Nat.add_le_add_left
abbrev qO := @List.mem_append_right
abbrev qP := @List.perm_append_comm_assoc
abbrev qQ := @Nat.add_le_add_right
abbrev qR := @wpAny_specialOf
abbrev qS := @Nat.mul_le_mul_left
abbrev qT := @builtinLookup_eq_fast
abbrev qU := @Nat.le_of_eq
abbrev qV := @PySem.wpAny_of_eq
abbrev qW := @Nat.le_refl
abbrev qX := @typeLookup_type
abbrev qY := @Heap.SameBut.update
abbrev qZ := @Heap.lt_size
abbrev q_ := @Nat.ne_of_lt
abbrev r0 := @Nat.zero_le
abbrev r5 := @Heap.get?_update_self
abbrev r6 := @Nat.lt_of_le_of_lt
abbrev r7 := @Nat.succ_le_succ
abbrev r8 := @PySem.wpAny_call_entry
abbrev r9 := @Nat.le_of_ble_eq_true
local macro_rules | `(tactic| rfl') => `(tactic| kernel_rfl)
theorem nn{p:Prop}(h:¬p->False):p:=Classical.byContradiction h
section
@[irreducible] noncomputable def ep{A:Type}(n:Nonempty A)(P:A->Prop):A:=@Classical.epsilon A n λx=>¬P x
theorem al1{A:Type}(n:Nonempty A){P:A->Prop}(h:P (ep n P))(x:A):P x:=Classical.byContradiction λq=>by
 unfold ep at h;exact @Classical.epsilon_spec A (λx=>¬P x) ⟨x,q⟩ h
theorem zx{A B:Type}(a:Nonempty A)(b:Nonempty B):Nonempty (A×B):=a.elim λx=>b.elim λy=>⟨x,y⟩
theorem zN:Nonempty Nat:=⟨0⟩
theorem zI:Nonempty Int:=⟨0⟩
theorem zB:Nonempty Bool:=⟨true⟩
theorem zV:Nonempty Value:=⟨.none⟩
theorem zS:Nonempty Shared:=⟨{}⟩
theorem zA:Nonempty Around:=⟨{}⟩
theorem zH:Nonempty Heap:=⟨default⟩
theorem zP:Nonempty Pos:=⟨default⟩
theorem zb:Nonempty Obj:=⟨default⟩
theorem zQ:Nonempty Env:=⟨default⟩
theorem ze:Nonempty Expr:=⟨default⟩
theorem zs:Nonempty Str:=⟨default⟩
theorem zW:Nonempty OsState:=⟨{}⟩
theorem zf:Nonempty FuncData:=⟨default⟩
theorem zg:Nonempty String:=⟨default⟩
theorem zu:Nonempty UInt8:=⟨0⟩
theorem zq:Nonempty Prop:=⟨True⟩
theorem zD:Nonempty PyData:=⟨.none⟩
theorem zfl:Nonempty Flow:=⟨.next⟩
theorem zco:Nonempty Code:=⟨.builtin "" {}⟩
theorem zst:Nonempty Stmt:=⟨default⟩
theorem zar:Nonempty Args:=⟨{}⟩
theorem zsc:Nonempty Scope:=⟨default⟩
theorem zcd:Nonempty ClassData:=⟨default⟩
theorem zda:Nonempty Data:=⟨.plain⟩
section
variable {A B C D E F G H I J K L M N O P Q R S T:Type} (nA:Nonempty A) (nB:Nonempty B) (nC:Nonempty C) (nD:Nonempty D) (nE:Nonempty E) (nF:Nonempty F) (nG:Nonempty G) (nH:Nonempty H) (nI:Nonempty I) (nJ:Nonempty J) (nK:Nonempty K) (nL:Nonempty L) (nM:Nonempty M) (nN:Nonempty N) (nO:Nonempty O) (nP:Nonempty P) (nQ:Nonempty Q) (nR:Nonempty R) (nS:Nonempty S) (nT:Nonempty T)
theorem zL:Nonempty (List A):=⟨[]⟩
theorem zO:Nonempty (Option A):=⟨none⟩
theorem za:Nonempty (Array A):=⟨#[]⟩
theorem zp1:Nonempty (A->Prop):=⟨λ_=>True⟩
theorem aN:Nonempty (A->B->Prop):=⟨λ_ _=>True⟩
theorem zp4{E:Type}:Nonempty (A->B->C->E->Prop):=⟨λ_ _ _ _=>True⟩
theorem zse(z:Nonempty A):Nonempty (Sem A):=z.elim λa=>⟨pure a⟩
theorem aK:Nonempty (A->B->C->Prop):=⟨λ_ _ _=>True⟩
abbrev au2(Z:A->B->Prop)(z:A×B):=Z z.1 z.2
def e2(Z:A->B->Prop):=ep (zx nA nB) (au2 Z)
theorem al2(Z:A->B->Prop)(y:(λz=>Z z.1 z.2) (e2 nA nB Z)):∀a b,Z a b:=λa b=>al1 (P:=au2 Z) _ y (a,b)
abbrev au3(Z:A->B->C->Prop)(z:A×B×C):=Z z.1 z.2.1 z.2.2
def e3(Z:A->B->C->Prop):=ep (zx nA (zx nB nC)) (au3 Z)
theorem al3(Z:A->B->C->Prop)(y:(λz=>Z z.1 z.2.1 z.2.2) (e3 nA nB nC Z)):∀a b c,Z a b c:=λa b c=>al1 (P:=au3 Z) _ y (a,b,c)
abbrev au4(Z:A->B->C->D->Prop)(z:A×B×C×D):=Z z.1 z.2.1 z.2.2.1 z.2.2.2
def e4(Z:A->B->C->D->Prop):=ep (zx nA (zx nB (zx nC nD))) (au4 Z)
theorem al4(Z:A->B->C->D->Prop)(y:(λz=>Z z.1 z.2.1 z.2.2.1 z.2.2.2) (e4 nA nB nC nD Z)):∀a b c d,Z a b c d:=λa b c d=>al1 (P:=au4 Z) _ y (a,b,c,d)
abbrev au5(Z:A->B->C->D->E->Prop)(z:A×B×C×D×E):=Z z.1 z.2.1 z.2.2.1 z.2.2.2.1 z.2.2.2.2
def e5(Z:A->B->C->D->E->Prop):=ep (zx nA (zx nB (zx nC (zx nD nE)))) (au5 Z)
theorem al5(Z:A->B->C->D->E->Prop)(y:(λz=>Z z.1 z.2.1 z.2.2.1 z.2.2.2.1 z.2.2.2.2) (e5 nA nB nC nD nE Z)):∀a b c d e,Z a b c d e:=λa b c d e=>al1 (P:=au5 Z) _ y (a,b,c,d,e)
abbrev au6(Z:A->B->C->D->E->F->Prop)(z:A×B×C×D×E×F):=Z z.1 z.2.1 z.2.2.1 z.2.2.2.1 z.2.2.2.2.1 z.2.2.2.2.2
def e6(Z:A->B->C->D->E->F->Prop):=ep (zx nA (zx nB (zx nC (zx nD (zx nE nF))))) (au6 Z)
theorem al6(Z:A->B->C->D->E->F->Prop)(y:(λz=>Z z.1 z.2.1 z.2.2.1 z.2.2.2.1 z.2.2.2.2.1 z.2.2.2.2.2) (e6 nA nB nC nD nE nF Z)):∀a b c d e f,Z a b c d e f:=λa b c d e f=>al1 (P:=au6 Z) _ y (a,b,c,d,e,f)
abbrev au7(Z:A->B->C->D->E->F->G->Prop)(z:A×B×C×D×E×F×G):=Z z.1 z.2.1 z.2.2.1 z.2.2.2.1 z.2.2.2.2.1 z.2.2.2.2.2.1 z.2.2.2.2.2.2
def e7(Z:A->B->C->D->E->F->G->Prop):=ep (zx nA (zx nB (zx nC (zx nD (zx nE (zx nF nG)))))) (au7 Z)
theorem al7(Z:A->B->C->D->E->F->G->Prop)(y:(λz=>Z z.1 z.2.1 z.2.2.1 z.2.2.2.1 z.2.2.2.2.1 z.2.2.2.2.2.1 z.2.2.2.2.2.2) (e7 nA nB nC nD nE nF nG Z)):∀a b c d e f g,Z a b c d e f g:=λa b c d e f g=>al1 (P:=au7 Z) _ y (a,b,c,d,e,f,g)
abbrev au8(Z:A->B->C->D->E->F->G->H->Prop)(z:A×B×C×D×E×F×G×H):=Z z.1 z.2.1 z.2.2.1 z.2.2.2.1 z.2.2.2.2.1 z.2.2.2.2.2.1 z.2.2.2.2.2.2.1 z.2.2.2.2.2.2.2
def e8(Z:A->B->C->D->E->F->G->H->Prop):=ep (zx nA (zx nB (zx nC (zx nD (zx nE (zx nF (zx nG nH))))))) (au8 Z)
theorem al8(Z:A->B->C->D->E->F->G->H->Prop)(y:(λz=>Z z.1 z.2.1 z.2.2.1 z.2.2.2.1 z.2.2.2.2.1 z.2.2.2.2.2.1 z.2.2.2.2.2.2.1 z.2.2.2.2.2.2.2) (e8 nA nB nC nD nE nF nG nH Z)):∀a b c d e f g h,Z a b c d e f g h:=λa b c d e f g h=>al1 (P:=au8 Z) _ y (a,b,c,d,e,f,g,h)
abbrev au9(Z:A->B->C->D->E->F->G->H->I->Prop)(z:A×B×C×D×E×F×G×H×I):=Z z.1 z.2.1 z.2.2.1 z.2.2.2.1 z.2.2.2.2.1 z.2.2.2.2.2.1 z.2.2.2.2.2.2.1 z.2.2.2.2.2.2.2.1 z.2.2.2.2.2.2.2.2
def e9(Z:A->B->C->D->E->F->G->H->I->Prop):=ep (zx nA (zx nB (zx nC (zx nD (zx nE (zx nF (zx nG (zx nH nI)))))))) (au9 Z)
theorem al9(Z:A->B->C->D->E->F->G->H->I->Prop)(y:(λz=>Z z.1 z.2.1 z.2.2.1 z.2.2.2.1 z.2.2.2.2.1 z.2.2.2.2.2.1 z.2.2.2.2.2.2.1 z.2.2.2.2.2.2.2.1 z.2.2.2.2.2.2.2.2) (e9 nA nB nC nD nE nF nG nH nI Z)):∀a b c d e f g h i,Z a b c d e f g h i:=λa b c d e f g h i=>al1 (P:=au9 Z) _ y (a,b,c,d,e,f,g,h,i)
abbrev au10(Z:A->B->C->D->E->F->G->H->I->J->Prop)(z:A×B×C×D×E×F×G×H×I×J):=Z z.1 z.2.1 z.2.2.1 z.2.2.2.1 z.2.2.2.2.1 z.2.2.2.2.2.1 z.2.2.2.2.2.2.1 z.2.2.2.2.2.2.2.1 z.2.2.2.2.2.2.2.2.1 z.2.2.2.2.2.2.2.2.2
def e10(Z:A->B->C->D->E->F->G->H->I->J->Prop):=ep (zx nA (zx nB (zx nC (zx nD (zx nE (zx nF (zx nG (zx nH (zx nI nJ))))))))) (au10 Z)
theorem al10(Z:A->B->C->D->E->F->G->H->I->J->Prop)(y:(λz=>Z z.1 z.2.1 z.2.2.1 z.2.2.2.1 z.2.2.2.2.1 z.2.2.2.2.2.1 z.2.2.2.2.2.2.1 z.2.2.2.2.2.2.2.1 z.2.2.2.2.2.2.2.2.1 z.2.2.2.2.2.2.2.2.2) (e10 nA nB nC nD nE nF nG nH nI nJ Z)):∀a b c d e f g h i j,Z a b c d e f g h i j:=λa b c d e f g h i j=>al1 (P:=au10 Z) _ y (a,b,c,d,e,f,g,h,i,j)
abbrev au11(Z:A->B->C->D->E->F->G->H->I->J->K->Prop)(z:A×B×C×D×E×F×G×H×I×J×K):=Z z.1 z.2.1 z.2.2.1 z.2.2.2.1 z.2.2.2.2.1 z.2.2.2.2.2.1 z.2.2.2.2.2.2.1 z.2.2.2.2.2.2.2.1 z.2.2.2.2.2.2.2.2.1 z.2.2.2.2.2.2.2.2.2.1 z.2.2.2.2.2.2.2.2.2.2
def e11(Z:A->B->C->D->E->F->G->H->I->J->K->Prop):=ep (zx nA (zx nB (zx nC (zx nD (zx nE (zx nF (zx nG (zx nH (zx nI (zx nJ nK)))))))))) (au11 Z)
theorem al11(Z:A->B->C->D->E->F->G->H->I->J->K->Prop)(y:(λz=>Z z.1 z.2.1 z.2.2.1 z.2.2.2.1 z.2.2.2.2.1 z.2.2.2.2.2.1 z.2.2.2.2.2.2.1 z.2.2.2.2.2.2.2.1 z.2.2.2.2.2.2.2.2.1 z.2.2.2.2.2.2.2.2.2.1 z.2.2.2.2.2.2.2.2.2.2) (e11 nA nB nC nD nE nF nG nH nI nJ nK Z)):∀a b c d e f g h i j k,Z a b c d e f g h i j k:=λa b c d e f g h i j k=>al1 (P:=au11 Z) _ y (a,b,c,d,e,f,g,h,i,j,k)
abbrev au12(Z:A->B->C->D->E->F->G->H->I->J->K->L->Prop)(z:A×B×C×D×E×F×G×H×I×J×K×L):=Z z.1 z.2.1 z.2.2.1 z.2.2.2.1 z.2.2.2.2.1 z.2.2.2.2.2.1 z.2.2.2.2.2.2.1 z.2.2.2.2.2.2.2.1 z.2.2.2.2.2.2.2.2.1 z.2.2.2.2.2.2.2.2.2.1 z.2.2.2.2.2.2.2.2.2.2.1 z.2.2.2.2.2.2.2.2.2.2.2
def e12(Z:A->B->C->D->E->F->G->H->I->J->K->L->Prop):=ep (zx nA (zx nB (zx nC (zx nD (zx nE (zx nF (zx nG (zx nH (zx nI (zx nJ (zx nK nL))))))))))) (au12 Z)
theorem al12(Z:A->B->C->D->E->F->G->H->I->J->K->L->Prop)(y:(λz=>Z z.1 z.2.1 z.2.2.1 z.2.2.2.1 z.2.2.2.2.1 z.2.2.2.2.2.1 z.2.2.2.2.2.2.1 z.2.2.2.2.2.2.2.1 z.2.2.2.2.2.2.2.2.1 z.2.2.2.2.2.2.2.2.2.1 z.2.2.2.2.2.2.2.2.2.2.1 z.2.2.2.2.2.2.2.2.2.2.2) (e12 nA nB nC nD nE nF nG nH nI nJ nK nL Z)):∀a b c d e f g h i j k l,Z a b c d e f g h i j k l:=λa b c d e f g h i j k l=>al1 (P:=au12 Z) _ y (a,b,c,d,e,f,g,h,i,j,k,l)
abbrev au13(Z:A->B->C->D->E->F->G->H->I->J->K->L->M->Prop)(z:A×B×C×D×E×F×G×H×I×J×K×L×M):=Z z.1 z.2.1 z.2.2.1 z.2.2.2.1 z.2.2.2.2.1 z.2.2.2.2.2.1 z.2.2.2.2.2.2.1 z.2.2.2.2.2.2.2.1 z.2.2.2.2.2.2.2.2.1 z.2.2.2.2.2.2.2.2.2.1 z.2.2.2.2.2.2.2.2.2.2.1 z.2.2.2.2.2.2.2.2.2.2.2.1 z.2.2.2.2.2.2.2.2.2.2.2.2
def e13(Z:A->B->C->D->E->F->G->H->I->J->K->L->M->Prop):=ep (zx nA (zx nB (zx nC (zx nD (zx nE (zx nF (zx nG (zx nH (zx nI (zx nJ (zx nK (zx nL nM)))))))))))) (au13 Z)
theorem al13(Z:A->B->C->D->E->F->G->H->I->J->K->L->M->Prop)(y:(λz=>Z z.1 z.2.1 z.2.2.1 z.2.2.2.1 z.2.2.2.2.1 z.2.2.2.2.2.1 z.2.2.2.2.2.2.1 z.2.2.2.2.2.2.2.1 z.2.2.2.2.2.2.2.2.1 z.2.2.2.2.2.2.2.2.2.1 z.2.2.2.2.2.2.2.2.2.2.1 z.2.2.2.2.2.2.2.2.2.2.2.1 z.2.2.2.2.2.2.2.2.2.2.2.2) (e13 nA nB nC nD nE nF nG nH nI nJ nK nL nM Z)):∀a b c d e f g h i j k l m,Z a b c d e f g h i j k l m:=λa b c d e f g h i j k l m=>al1 (P:=au13 Z) _ y (a,b,c,d,e,f,g,h,i,j,k,l,m)
abbrev au14(Z:A->B->C->D->E->F->G->H->I->J->K->L->M->N->Prop)(z:A×B×C×D×E×F×G×H×I×J×K×L×M×N):=Z z.1 z.2.1 z.2.2.1 z.2.2.2.1 z.2.2.2.2.1 z.2.2.2.2.2.1 z.2.2.2.2.2.2.1 z.2.2.2.2.2.2.2.1 z.2.2.2.2.2.2.2.2.1 z.2.2.2.2.2.2.2.2.2.1 z.2.2.2.2.2.2.2.2.2.2.1 z.2.2.2.2.2.2.2.2.2.2.2.1 z.2.2.2.2.2.2.2.2.2.2.2.2.1 z.2.2.2.2.2.2.2.2.2.2.2.2.2
def e14(Z:A->B->C->D->E->F->G->H->I->J->K->L->M->N->Prop):=ep (zx nA (zx nB (zx nC (zx nD (zx nE (zx nF (zx nG (zx nH (zx nI (zx nJ (zx nK (zx nL (zx nM nN))))))))))))) (au14 Z)
theorem al14(Z:A->B->C->D->E->F->G->H->I->J->K->L->M->N->Prop)(y:(λz=>Z z.1 z.2.1 z.2.2.1 z.2.2.2.1 z.2.2.2.2.1 z.2.2.2.2.2.1 z.2.2.2.2.2.2.1 z.2.2.2.2.2.2.2.1 z.2.2.2.2.2.2.2.2.1 z.2.2.2.2.2.2.2.2.2.1 z.2.2.2.2.2.2.2.2.2.2.1 z.2.2.2.2.2.2.2.2.2.2.2.1 z.2.2.2.2.2.2.2.2.2.2.2.2.1 z.2.2.2.2.2.2.2.2.2.2.2.2.2) (e14 nA nB nC nD nE nF nG nH nI nJ nK nL nM nN Z)):∀a b c d e f g h i j k l m n,Z a b c d e f g h i j k l m n:=λa b c d e f g h i j k l m n=>al1 (P:=au14 Z) _ y (a,b,c,d,e,f,g,h,i,j,k,l,m,n)
abbrev au15(Z:A->B->C->D->E->F->G->H->I->J->K->L->M->N->O->Prop)(z:A×B×C×D×E×F×G×H×I×J×K×L×M×N×O):=Z z.1 z.2.1 z.2.2.1 z.2.2.2.1 z.2.2.2.2.1 z.2.2.2.2.2.1 z.2.2.2.2.2.2.1 z.2.2.2.2.2.2.2.1 z.2.2.2.2.2.2.2.2.1 z.2.2.2.2.2.2.2.2.2.1 z.2.2.2.2.2.2.2.2.2.2.1 z.2.2.2.2.2.2.2.2.2.2.2.1 z.2.2.2.2.2.2.2.2.2.2.2.2.1 z.2.2.2.2.2.2.2.2.2.2.2.2.2.1 z.2.2.2.2.2.2.2.2.2.2.2.2.2.2
def e15(Z:A->B->C->D->E->F->G->H->I->J->K->L->M->N->O->Prop):=ep (zx nA (zx nB (zx nC (zx nD (zx nE (zx nF (zx nG (zx nH (zx nI (zx nJ (zx nK (zx nL (zx nM (zx nN nO)))))))))))))) (au15 Z)
theorem al15(Z:A->B->C->D->E->F->G->H->I->J->K->L->M->N->O->Prop)(y:(λz=>Z z.1 z.2.1 z.2.2.1 z.2.2.2.1 z.2.2.2.2.1 z.2.2.2.2.2.1 z.2.2.2.2.2.2.1 z.2.2.2.2.2.2.2.1 z.2.2.2.2.2.2.2.2.1 z.2.2.2.2.2.2.2.2.2.1 z.2.2.2.2.2.2.2.2.2.2.1 z.2.2.2.2.2.2.2.2.2.2.2.1 z.2.2.2.2.2.2.2.2.2.2.2.2.1 z.2.2.2.2.2.2.2.2.2.2.2.2.2.1 z.2.2.2.2.2.2.2.2.2.2.2.2.2.2) (e15 nA nB nC nD nE nF nG nH nI nJ nK nL nM nN nO Z)):∀a b c d e f g h i j k l m n o,Z a b c d e f g h i j k l m n o:=λa b c d e f g h i j k l m n o=>al1 (P:=au15 Z) _ y (a,b,c,d,e,f,g,h,i,j,k,l,m,n,o)
abbrev au16(Z:A->B->C->D->E->F->G->H->I->J->K->L->M->N->O->P->Prop)(z:A×B×C×D×E×F×G×H×I×J×K×L×M×N×O×P):=Z z.1 z.2.1 z.2.2.1 z.2.2.2.1 z.2.2.2.2.1 z.2.2.2.2.2.1 z.2.2.2.2.2.2.1 z.2.2.2.2.2.2.2.1 z.2.2.2.2.2.2.2.2.1 z.2.2.2.2.2.2.2.2.2.1 z.2.2.2.2.2.2.2.2.2.2.1 z.2.2.2.2.2.2.2.2.2.2.2.1 z.2.2.2.2.2.2.2.2.2.2.2.2.1 z.2.2.2.2.2.2.2.2.2.2.2.2.2.1 z.2.2.2.2.2.2.2.2.2.2.2.2.2.2.1 z.2.2.2.2.2.2.2.2.2.2.2.2.2.2.2
def e16(Z:A->B->C->D->E->F->G->H->I->J->K->L->M->N->O->P->Prop):=ep (zx nA (zx nB (zx nC (zx nD (zx nE (zx nF (zx nG (zx nH (zx nI (zx nJ (zx nK (zx nL (zx nM (zx nN (zx nO nP))))))))))))))) (au16 Z)
theorem al16(Z:A->B->C->D->E->F->G->H->I->J->K->L->M->N->O->P->Prop)(y:(λz=>Z z.1 z.2.1 z.2.2.1 z.2.2.2.1 z.2.2.2.2.1 z.2.2.2.2.2.1 z.2.2.2.2.2.2.1 z.2.2.2.2.2.2.2.1 z.2.2.2.2.2.2.2.2.1 z.2.2.2.2.2.2.2.2.2.1 z.2.2.2.2.2.2.2.2.2.2.1 z.2.2.2.2.2.2.2.2.2.2.2.1 z.2.2.2.2.2.2.2.2.2.2.2.2.1 z.2.2.2.2.2.2.2.2.2.2.2.2.2.1 z.2.2.2.2.2.2.2.2.2.2.2.2.2.2.1 z.2.2.2.2.2.2.2.2.2.2.2.2.2.2.2) (e16 nA nB nC nD nE nF nG nH nI nJ nK nL nM nN nO nP Z)):∀a b c d e f g h i j k l m n o p,Z a b c d e f g h i j k l m n o p:=λa b c d e f g h i j k l m n o p=>al1 (P:=au16 Z) _ y (a,b,c,d,e,f,g,h,i,j,k,l,m,n,o,p)
abbrev au17(Z:A->B->C->D->E->F->G->H->I->J->K->L->M->N->O->P->Q->Prop)(z:A×B×C×D×E×F×G×H×I×J×K×L×M×N×O×P×Q):=Z z.1 z.2.1 z.2.2.1 z.2.2.2.1 z.2.2.2.2.1 z.2.2.2.2.2.1 z.2.2.2.2.2.2.1 z.2.2.2.2.2.2.2.1 z.2.2.2.2.2.2.2.2.1 z.2.2.2.2.2.2.2.2.2.1 z.2.2.2.2.2.2.2.2.2.2.1 z.2.2.2.2.2.2.2.2.2.2.2.1 z.2.2.2.2.2.2.2.2.2.2.2.2.1 z.2.2.2.2.2.2.2.2.2.2.2.2.2.1 z.2.2.2.2.2.2.2.2.2.2.2.2.2.2.1 z.2.2.2.2.2.2.2.2.2.2.2.2.2.2.2.1 z.2.2.2.2.2.2.2.2.2.2.2.2.2.2.2.2
def e17(Z:A->B->C->D->E->F->G->H->I->J->K->L->M->N->O->P->Q->Prop):=ep (zx nA (zx nB (zx nC (zx nD (zx nE (zx nF (zx nG (zx nH (zx nI (zx nJ (zx nK (zx nL (zx nM (zx nN (zx nO (zx nP nQ)))))))))))))))) (au17 Z)
theorem al17(Z:A->B->C->D->E->F->G->H->I->J->K->L->M->N->O->P->Q->Prop)(y:(λz=>Z z.1 z.2.1 z.2.2.1 z.2.2.2.1 z.2.2.2.2.1 z.2.2.2.2.2.1 z.2.2.2.2.2.2.1 z.2.2.2.2.2.2.2.1 z.2.2.2.2.2.2.2.2.1 z.2.2.2.2.2.2.2.2.2.1 z.2.2.2.2.2.2.2.2.2.2.1 z.2.2.2.2.2.2.2.2.2.2.2.1 z.2.2.2.2.2.2.2.2.2.2.2.2.1 z.2.2.2.2.2.2.2.2.2.2.2.2.2.1 z.2.2.2.2.2.2.2.2.2.2.2.2.2.2.1 z.2.2.2.2.2.2.2.2.2.2.2.2.2.2.2.1 z.2.2.2.2.2.2.2.2.2.2.2.2.2.2.2.2) (e17 nA nB nC nD nE nF nG nH nI nJ nK nL nM nN nO nP nQ Z)):∀a b c d e f g h i j k l m n o p q,Z a b c d e f g h i j k l m n o p q:=λa b c d e f g h i j k l m n o p q=>al1 (P:=au17 Z) _ y (a,b,c,d,e,f,g,h,i,j,k,l,m,n,o,p,q)
abbrev au18(Z:A->B->C->D->E->F->G->H->I->J->K->L->M->N->O->P->Q->R->Prop)(z:A×B×C×D×E×F×G×H×I×J×K×L×M×N×O×P×Q×R):=Z z.1 z.2.1 z.2.2.1 z.2.2.2.1 z.2.2.2.2.1 z.2.2.2.2.2.1 z.2.2.2.2.2.2.1 z.2.2.2.2.2.2.2.1 z.2.2.2.2.2.2.2.2.1 z.2.2.2.2.2.2.2.2.2.1 z.2.2.2.2.2.2.2.2.2.2.1 z.2.2.2.2.2.2.2.2.2.2.2.1 z.2.2.2.2.2.2.2.2.2.2.2.2.1 z.2.2.2.2.2.2.2.2.2.2.2.2.2.1 z.2.2.2.2.2.2.2.2.2.2.2.2.2.2.1 z.2.2.2.2.2.2.2.2.2.2.2.2.2.2.2.1 z.2.2.2.2.2.2.2.2.2.2.2.2.2.2.2.2.1 z.2.2.2.2.2.2.2.2.2.2.2.2.2.2.2.2.2
def e18(Z:A->B->C->D->E->F->G->H->I->J->K->L->M->N->O->P->Q->R->Prop):=ep (zx nA (zx nB (zx nC (zx nD (zx nE (zx nF (zx nG (zx nH (zx nI (zx nJ (zx nK (zx nL (zx nM (zx nN (zx nO (zx nP (zx nQ nR))))))))))))))))) (au18 Z)
theorem al18(Z:A->B->C->D->E->F->G->H->I->J->K->L->M->N->O->P->Q->R->Prop)(y:(λz=>Z z.1 z.2.1 z.2.2.1 z.2.2.2.1 z.2.2.2.2.1 z.2.2.2.2.2.1 z.2.2.2.2.2.2.1 z.2.2.2.2.2.2.2.1 z.2.2.2.2.2.2.2.2.1 z.2.2.2.2.2.2.2.2.2.1 z.2.2.2.2.2.2.2.2.2.2.1 z.2.2.2.2.2.2.2.2.2.2.2.1 z.2.2.2.2.2.2.2.2.2.2.2.2.1 z.2.2.2.2.2.2.2.2.2.2.2.2.2.1 z.2.2.2.2.2.2.2.2.2.2.2.2.2.2.1 z.2.2.2.2.2.2.2.2.2.2.2.2.2.2.2.1 z.2.2.2.2.2.2.2.2.2.2.2.2.2.2.2.2.1 z.2.2.2.2.2.2.2.2.2.2.2.2.2.2.2.2.2) (e18 nA nB nC nD nE nF nG nH nI nJ nK nL nM nN nO nP nQ nR Z)):∀a b c d e f g h i j k l m n o p q r,Z a b c d e f g h i j k l m n o p q r:=λa b c d e f g h i j k l m n o p q r=>al1 (P:=au18 Z) _ y (a,b,c,d,e,f,g,h,i,j,k,l,m,n,o,p,q,r)
abbrev au19(Z:A->B->C->D->E->F->G->H->I->J->K->L->M->N->O->P->Q->R->S->Prop)(z:A×B×C×D×E×F×G×H×I×J×K×L×M×N×O×P×Q×R×S):=Z z.1 z.2.1 z.2.2.1 z.2.2.2.1 z.2.2.2.2.1 z.2.2.2.2.2.1 z.2.2.2.2.2.2.1 z.2.2.2.2.2.2.2.1 z.2.2.2.2.2.2.2.2.1 z.2.2.2.2.2.2.2.2.2.1 z.2.2.2.2.2.2.2.2.2.2.1 z.2.2.2.2.2.2.2.2.2.2.2.1 z.2.2.2.2.2.2.2.2.2.2.2.2.1 z.2.2.2.2.2.2.2.2.2.2.2.2.2.1 z.2.2.2.2.2.2.2.2.2.2.2.2.2.2.1 z.2.2.2.2.2.2.2.2.2.2.2.2.2.2.2.1 z.2.2.2.2.2.2.2.2.2.2.2.2.2.2.2.2.1 z.2.2.2.2.2.2.2.2.2.2.2.2.2.2.2.2.2.1 z.2.2.2.2.2.2.2.2.2.2.2.2.2.2.2.2.2.2
def e19(Z:A->B->C->D->E->F->G->H->I->J->K->L->M->N->O->P->Q->R->S->Prop):=ep (zx nA (zx nB (zx nC (zx nD (zx nE (zx nF (zx nG (zx nH (zx nI (zx nJ (zx nK (zx nL (zx nM (zx nN (zx nO (zx nP (zx nQ (zx nR nS)))))))))))))))))) (au19 Z)
theorem al19(Z:A->B->C->D->E->F->G->H->I->J->K->L->M->N->O->P->Q->R->S->Prop)(y:(λz=>Z z.1 z.2.1 z.2.2.1 z.2.2.2.1 z.2.2.2.2.1 z.2.2.2.2.2.1 z.2.2.2.2.2.2.1 z.2.2.2.2.2.2.2.1 z.2.2.2.2.2.2.2.2.1 z.2.2.2.2.2.2.2.2.2.1 z.2.2.2.2.2.2.2.2.2.2.1 z.2.2.2.2.2.2.2.2.2.2.2.1 z.2.2.2.2.2.2.2.2.2.2.2.2.1 z.2.2.2.2.2.2.2.2.2.2.2.2.2.1 z.2.2.2.2.2.2.2.2.2.2.2.2.2.2.1 z.2.2.2.2.2.2.2.2.2.2.2.2.2.2.2.1 z.2.2.2.2.2.2.2.2.2.2.2.2.2.2.2.2.1 z.2.2.2.2.2.2.2.2.2.2.2.2.2.2.2.2.2.1 z.2.2.2.2.2.2.2.2.2.2.2.2.2.2.2.2.2.2) (e19 nA nB nC nD nE nF nG nH nI nJ nK nL nM nN nO nP nQ nR nS Z)):∀a b c d e f g h i j k l m n o p q r s,Z a b c d e f g h i j k l m n o p q r s:=λa b c d e f g h i j k l m n o p q r s=>al1 (P:=au19 Z) _ y (a,b,c,d,e,f,g,h,i,j,k,l,m,n,o,p,q,r,s)
abbrev au20(Z:A->B->C->D->E->F->G->H->I->J->K->L->M->N->O->P->Q->R->S->T->Prop)(z:A×B×C×D×E×F×G×H×I×J×K×L×M×N×O×P×Q×R×S×T):=Z z.1 z.2.1 z.2.2.1 z.2.2.2.1 z.2.2.2.2.1 z.2.2.2.2.2.1 z.2.2.2.2.2.2.1 z.2.2.2.2.2.2.2.1 z.2.2.2.2.2.2.2.2.1 z.2.2.2.2.2.2.2.2.2.1 z.2.2.2.2.2.2.2.2.2.2.1 z.2.2.2.2.2.2.2.2.2.2.2.1 z.2.2.2.2.2.2.2.2.2.2.2.2.1 z.2.2.2.2.2.2.2.2.2.2.2.2.2.1 z.2.2.2.2.2.2.2.2.2.2.2.2.2.2.1 z.2.2.2.2.2.2.2.2.2.2.2.2.2.2.2.1 z.2.2.2.2.2.2.2.2.2.2.2.2.2.2.2.2.1 z.2.2.2.2.2.2.2.2.2.2.2.2.2.2.2.2.2.1 z.2.2.2.2.2.2.2.2.2.2.2.2.2.2.2.2.2.2.1 z.2.2.2.2.2.2.2.2.2.2.2.2.2.2.2.2.2.2.2
def e20(Z:A->B->C->D->E->F->G->H->I->J->K->L->M->N->O->P->Q->R->S->T->Prop):=ep (zx nA (zx nB (zx nC (zx nD (zx nE (zx nF (zx nG (zx nH (zx nI (zx nJ (zx nK (zx nL (zx nM (zx nN (zx nO (zx nP (zx nQ (zx nR (zx nS nT))))))))))))))))))) (au20 Z)
theorem al20(Z:A->B->C->D->E->F->G->H->I->J->K->L->M->N->O->P->Q->R->S->T->Prop)(y:(λz=>Z z.1 z.2.1 z.2.2.1 z.2.2.2.1 z.2.2.2.2.1 z.2.2.2.2.2.1 z.2.2.2.2.2.2.1 z.2.2.2.2.2.2.2.1 z.2.2.2.2.2.2.2.2.1 z.2.2.2.2.2.2.2.2.2.1 z.2.2.2.2.2.2.2.2.2.2.1 z.2.2.2.2.2.2.2.2.2.2.2.1 z.2.2.2.2.2.2.2.2.2.2.2.2.1 z.2.2.2.2.2.2.2.2.2.2.2.2.2.1 z.2.2.2.2.2.2.2.2.2.2.2.2.2.2.1 z.2.2.2.2.2.2.2.2.2.2.2.2.2.2.2.1 z.2.2.2.2.2.2.2.2.2.2.2.2.2.2.2.2.1 z.2.2.2.2.2.2.2.2.2.2.2.2.2.2.2.2.2.1 z.2.2.2.2.2.2.2.2.2.2.2.2.2.2.2.2.2.2.1 z.2.2.2.2.2.2.2.2.2.2.2.2.2.2.2.2.2.2.2) (e20 nA nB nC nD nE nF nG nH nI nJ nK nL nM nN nO nP nQ nR nS nT Z)):∀a b c d e f g h i j k l m n o p q r s t,Z a b c d e f g h i j k l m n o p q r s t:=λa b c d e f g h i j k l m n o p q r s t=>al1 (P:=au20 Z) _ y (a,b,c,d,e,f,g,h,i,j,k,l,m,n,o,p,q,r,s,t)
end
end
local macro_rules | `(tactic| exists $z $y*, $[$a $A],*) => do
 let f:=Lean.mkIdent (.mkSimple s!"al{A.size}")
 let u <-A.mapM λ_=>`(_)
 let v:=A.mapIdx λi _=>Lean.mkIdent (.mkSimple s!"x{i}")
 `(tactic| (revert $z $y*; revert $A*; refine @$f $u* $a* ?P ((?f : ∀ $v*, ?P $v*) $u*); intro $A* $z $y*))
inductive Hd where|l (k:Nat)|s (n:Nat)
inductive V where
 | non|bool (b:Bool)|int (i:Int)|str (cs:List Nat)|bytes (bs:List UInt8)
 | top (a:Nat)|bi (k:Nat)|ty (k:Nat)|rng (lo hi:Int)|tup (vs:List V)|ref (n:Hd)
inductive O where
 | list (vs:List V)|dict (es:List (Int×V))|sdict (es:List (List Nat×V))|ns (fs:List (Nat×V))|inst (C:Nat) (d:Hd)|barr (bs:List UInt8)
 | cell (v:Option V)|fn (k:Nat) (cells:List (Nat×Hd))|exc (C:Nat) (d:Option Hd)|hole|tab (k:Nat)
noncomputable abbrev Hp:=List (Hd×O)
inductive Op where|add|sub|mul|fdiv|mod|band|bor|bxor|shl|shr
inductive Un where|neg|inv|not_
inductive Cm where|eq|ne|lt|le|gt|ge|isIn|notIn|is|isNot
inductive Lt where|non|tru|fls|int (i:Int)|str (k:Nat)|byt (bs:List UInt8)
inductive Nk where|loc|cel|glo
inductive Sq where|tup|lst|dct
inductive S1 where|expr|ret|raise
inductive X where
 | lit (l:Lt) (p:Pos)|nam (k:Nk) (i:Nat) (p:Pos)|bin (op:Op) (l r:X) (p:Pos)|un (o:Un) (x:X) (p:Pos)
 | ifx (t b o:X) (p:Pos)|bop (a:Bool) (xs:X) (p:Pos)|cmp (l:X) (o:Cm) (r:X) (p:Pos)|cmp2 (l:X) (o:Cm) (m:X) (o2:Cm) (r:X) (p:Pos)
 | attr (o:X) (a:Nat) (p:Pos)|sub (o i:X) (p:Pos)|subs (o lo hi st:X) (sp p:Pos)|sq (k:Sq) (xs:X) (p:Pos)
 | call (f xs:X) (p:Pos)|mcall (o:X) (a:Nat) (xs:X) (ap p:Pos)
 | comp (e:X) (t:Nat) (it ifs:X) (tp:Pos) (sc:List (Nat×NameKind)) (p:Pos)|lam (k:Nat)|nil|cons (x xs:X)
 | s1 (k:S1) (e:X) (p:Pos)|asg (t e:X) (p:Pos)|asgs (sw:Bool) (ts ys:X) (p1 p2 p:Pos)|iff (t b o:X) (p:Pos)
 | for_ (t it b:X) (p:Pos)|forE (ts x b:X) (tp np cp p:Pos)|exc (b:X) (C:X) (n:Option Nat) (h:X) (hp p:Pos)|fin (b f:X) (p:Pos)|def_ (i k:Nat)
inductive Fl where|next|ret (v:V)
structure Fr where
 loc:List (Nat×V)
 cel:List (Nat×Hd)
structure Fn where
 params:List Nat
 body:X
noncomputable def look{β:Type}(k:Nat):List (Nat×β)->Option β
 | []=>.none
 | (j,v)::r=>match Nat.beq j k with|true=>some v|false=>look k r
noncomputable def put{β:Type}(k:Nat)(v:β):List (Nat×β)->List (Nat×β)
 | []=>[(k,v)]
 | (j,u)::r=>match Nat.beq j k with|true=>(j,v)::r|false=>(j,u)::put k v r
noncomputable def aF:List Nat->List Nat->Bool
 | [],[]=>true
 | a::r,b::t=>match Nat.beq a b with|true=>aF r t|false=>false
 | _,_=>false
noncomputable def ai(a b:Int):Bool:=decide (a=b)
noncomputable def iz:List Nat->Bool
 | []=>true
 | c::r=>match Nat.blt c 1114112 with|true=>iz r|false=>false
noncomputable def b9{κ β:Type}(eq:κ->κ->Bool)(k:κ):List (κ×β)->Option β
 | []=>none
 | (j,v)::r=>match eq j k with|true=>some v|false=>b9 eq k r
noncomputable def cH{κ β:Type}(eq:κ->κ->Bool)(k:κ)(v:β):List (κ×β)->List (κ×β)
 | []=>[(k,v)]
 | (j,u)::r=>match eq j k with|true=>(j,v)::r|false=>(j,u)::cH eq k v r
noncomputable def iX(i:Int)(n:Nat):Option Nat:=match decide (i.natAbs<2 ^ 62) with
 | false=>none
 | true=>(match decide (0<=i) with
  | true=>(match Nat.blt i.toNat n with|true=>some i.toNat|false=>none)
  | false=>(match decide (-(n:Int)<=i) with|true=>some (i+n).toNat|false=>none))
noncomputable def cut{β:Type}(lo hi:Nat)(l:List β):List β:=(l.take hi).drop lo
structure Cls where
 isExc:Bool
 bases:List Nat
 init:Nat
 meths:List (Nat×Nat)
 attrs:List Nat
structure Tabs where
 glob:List (Nat×V)
 fns:List (Nat×Fn)      -- top defs by address
 clos:List (Nat×Fn)     -- inner defs by number
 txt:List (Nat×List Nat)
 cls:List (Nat×Cls)
theorem zF:Nonempty Fr:=⟨[],[]⟩
theorem zv:Nonempty V:=⟨.non⟩
theorem zh:Nonempty Hd:=⟨.l 0⟩
theorem zo:Nonempty O:=⟨.hole⟩
theorem zX:Nonempty X:=⟨.nil⟩
theorem zn:Nonempty Fn:=⟨[],.nil⟩
theorem zC:Nonempty Cls:=⟨false,[],0,[],[]⟩
noncomputable def nthS:Nat->List Stmt->Stmt
 | 0,x::_=>x
 | n+1,_::r=>nthS n r
 | _,[]=>.Pass ⟨0,0,0,0⟩
def nS(n:Nat):Stmt:=nthS n PySem.Challenge.pw_og0218_01.main.body
def st0:=nS 0
def st1:=nS 1
def st2:=nS 2
def st3:=nS 3
def st4:=nS 4
def st5:=nS 5
def st6:=nS 6
def st7:=nS 7
def st8:=nS 8
def st9:=nS 9
def st10:=nS 10
def st11:=nS 11
def st12:=nS 12
def st13:=nS 13
def st14:=nS 14
def st15:=nS 15
def st16:=nS 16
def st17:=nS 17
def st18:=nS 18
def st19:=nS 19
def st20:=nS 20
def st21:=nS 21
def st22:=nS 22
def st23:=nS 23
def mu:=nS 24
def st25:=nS 25
def mn:=nS 26
def st27:=nS 27
def st28:=nS 28
def st29:=nS 29
def st30:=nS 30
def st31:=nS 31
def st32:=nS 32
def st33:=nS 33
def st34:=nS 34
def st35:=nS 35
def st36:=nS 36
def st37:=nS 37
def st38:=nS 38
def st39:=nS 39
def st40:=nS 40
def st41:=nS 41
def st42:=nS 42
def st43:=nS 43
def st44:=nS 44
def st45:=nS 45
def st46:=nS 46
def st47:=nS 47
def st48:=nS 48
def st49:=nS 49
def st50:=nS 50
def st51:=nS 51
def st52:=nS 52
def st53:=nS 53
def st54:=nS 54
def st55:=nS 55
def st56:=nS 56
def st57:=nS 57
def cY:=nS 58
def st59:=nS 59
def st60:=nS 60
def st61:=nS 61
def st62:=nS 62
def st63:=nS 63
def cX:=nS 64
def st65:=nS 65
def st66:=nS 66
def st67:=nS 67
def st68:=nS 68
def st69:=nS 69
def st70:=nS 70
def st71:=nS 71
def st72:=nS 72
def st73:=nS 73
def st74:=nS 74
def st75:=nS 75
def st76:=nS 76
def st77:=nS 77
def st78:=nS 78
def st79:=nS 79
def fZ:=nS 80
noncomputable def scM:Scope:=by
 refine(?f:(v:Scope)->(PySem.Challenge.pw_og0218_01.main.scope=v)->Scope) _ rfl;exact λv _=>v
noncomputable def pk:List Stmt:=[st0,st1,st2,st3,st4,st5,st6,st7,st8,st9,st10,st11,st12,st13,st14,st15,st16,st17,st18,st19,st20,st21,st22,st23,mu,st25,mn,st27,st28,st29,st30,st31,st32,st33,st34,st35,st36,st37,st38,st39,st40,st41,st42,st43,st44,st45,st46,st47,st48,st49,st50,st51,st52,st53,st54,st55,st56,st57,cY,st59,st60,st61,st62,st63,cX,st65,st66,st67,st68,st69,st70,st71,st72,st73,st74,st75,st76,st77,st78,st79,fZ]
noncomputable def pwM:Program:={main:={body:=pk,scope:=scM,futureAnnotations:=false,file:="/claim/cut.py",more:=[]},modules:=[],parses:=[],absent:=[],harvested:=[],given:={argv:=[],stdin:=[],environ:=(some [([76,67,95,65,76,76],[67,46,85,84,70,45,56])])}}
namespace Zx
noncomputable def P(n:Nat):Pos:=⟨n % 700,n / 700 % 120,n % 700+n / 10752000,(n / 700 % 120+n / 84000 % 128) % 128⟩
end Zx
section
open Zx
noncomputable def bodyS:Stmt->List Stmt|.FunctionDef _ _ b _ _ _ _ _ _ _=>b|.ClassDef _ _ _ b _ _ _ _ _ _ _=>b|_=>[]
noncomputable def nthG{α:Type}:Nat->List α->Option α|0,x::_=>some x|i+1,_::r=>nthG i r|_,[]=>none
noncomputable def sub_(s:Stmt)(i:Nat):Stmt:=(nthG i (bodyS s)).getD (.Pass ⟨0,0,0,0⟩)
noncomputable def clS:Stmt->Arguments×FuncBody×Scope|.FunctionDef _ a b _ _ _ s _ _ _=>(a,.stmts b,s)|.Assign _ (.Lambda a b s _) _=>(a,.expr b,s)|_=>(⟨[],[],none,[],[],none,[]⟩,.stmts [],default)
noncomputable def clo0:Arguments×FuncBody×Scope:=by
 refine(?f:(v:Arguments×FuncBody×Scope)->(clS (sub_ fZ 14)=v)->Arguments×FuncBody×Scope) _ rfl;exact λv _=>v
noncomputable def clo1:Arguments×FuncBody×Scope:=by
 refine(?f:(v:Arguments×FuncBody×Scope)->(clS (sub_ fZ 15)=v)->Arguments×FuncBody×Scope) _ rfl;exact λv _=>v
noncomputable def clo2:Arguments×FuncBody×Scope:=by
 refine(?f:(v:Arguments×FuncBody×Scope)->(clS (sub_ fZ 16)=v)->Arguments×FuncBody×Scope) _ rfl;exact λv _=>v
noncomputable def ck:Nat->Arguments×FuncBody×Scope|0=>clo0|1=>clo1|_=>clo2
noncomputable def dj:Nat->Nat|0=>56|1=>198|_=>47
noncomputable def cu:Nat->Pos|0=>Zx.P 1615574|1=>Zx.P 24363476|2=>Zx.P 12519480|k=>⟨k+2000,0,0,0⟩
noncomputable def nmL:List String:=["append","get","join","to_bytes","from_bytes","__init__","enumerate","Exception","self","word","DebugFault","at","low","entry","value","registers","list","machine","pc","is_done","status","log","row","floor","SP_handcall","load","number","range","len","wanted","function","children",".0","child","tag","numbers","CommandFault","MOST_NUMBERS","ends","program","base","text","stack_low","address","octets","data","max","session","target","stack","GAP","A0_handcall","MASK_handcall","RA","lead_in","insert","stops","places","event","resume","MOST_STEPS","remove","is_back","kind","need_life","function_low","check_numbers","Kept","level","kept","ran","bring_back","objects_end","moved","attrs","parent","offset","NOWHERE","name","form","attr","memory_size","sections","sources","_wall","text_end","bits","high","signed","op","a","b","c","PLAIN","PRODUCTS","told_word","NUMBERS","code","number_row","register_row","LOADS","STORES","BRANCHES","branch_distance","jump_distance","ECALL","EBREAK_rv32","SIGN","MASK_cpu","far","with_sign","one","other","found","abs","shifted","upper_product","quotient","size","memory","bytearray","output","known","Trap","place","bytes","note","int","read","decode","width","width_of","access","begin","write","put","here","goal","go","wish","A7","EXIT","PUT","A0_cpu","fetched","asked","jumped","holds","plain","worked","inserted","start","Machine","end","SP_cpu","addresses","WORD","taken","EBREAK_target","sorted","NotTold","min","laid","register","step","fault","lifted","is_access","told","done","ACCESSES","Event","turn","most","event_of","stirred","well","pick","more","way","_law_draw","laid_rows","_law_homes","_law_odd_rows","_law_all","room","first","rows","_law_access","_law_reckoned","Entry","made_one","many","has_code","add","called","given","script","is_alive","kinds_of_count","_law_rows","_law_word","_law_function","Program","Target","_law_laid","lives","forgets","_law_shown","before","log_now","_law_room","is_let","comes_back","_law_walk","heard_now","_law_heard","file","line","section","source_row","set_pc"]
noncomputable def nm(i:Nat):Str:=match nthG i nmL with|some s=>.ofString s|none=>⟨#[i+2000000]⟩
noncomputable def sxL:List String:=["low_pc","m","formal_parameter","Too few arguments in function call.","Too many arguments in function call.","break","stopped in the called function","the function has no code","","sub","sra","srai","jal","jalr","lui","auipc","ecall","ebreak","sll","srl","div","divu","remu","mulhu","mulh","add","and","or","xor","slt","sltu","mul","beq","bne","blt","bge","bltu","b","h","w","memory","r","align","little","illegal","pc","s","u","status","exit","out","bgeu","lb","lh","lw","lbu","lhu","sb","sh","sw","sltiu","i","no memory","trap","steps","addi","bad","ret","registers","stores","subprogram","addr","high_pc","data4","variable","dead"]
noncomputable def sx(i:Nat):Str:=match nthG i sxL with|some s=>.ofString s|none=>⟨#[i+2000000]⟩
noncomputable def opE:Op->Operator
 | .add=>.Add|.sub=>.Sub|.mul=>.Mult|.fdiv=>.FloorDiv|.mod=>.Mod|.band=>.BitAnd|.bor=>.BitOr|.bxor=>.BitXor|.shl=>.LShift|.shr=>.RShift
noncomputable def unE:Un->UnaryOp
 | .neg=>.USub|.inv=>.Invert|.not_=>.Not
noncomputable def iB:Cm->CmpOp
 | .eq=>.Eq|.ne=>.NotEq|.lt=>.Lt|.le=>.LtE|.gt=>.Gt|.ge=>.GtE|.isIn=>.In|.notIn=>.NotIn|.is=>.Is|.isNot=>.IsNot
noncomputable def ltE:Lt->Const
 | .non=>.none|.tru=>.bool true|.fls=>.bool false|.int i=>.int i|.str k=>.str (sx k)|.byt b=>.bytes b
noncomputable def boE:Bool->BoolOp
 | true=>.And|false=>.Or
structure Ex where
 e:Expr
 l:List Expr
 kk:List (Option Expr)
 kv:List Expr
 vk:List (Option Expr)
 vv:List Expr
 s:Stmt
 ss:List Stmt
 o:Option Expr
noncomputable def Ex.bad:Ex:=⟨.Constant .none 0 ⟨0,0,0,0⟩,[],[],[],[],[],.Pass ⟨0,0,0,0⟩,[],none⟩
noncomputable def Ex.ofE(e:Expr):Ex:={Ex.bad with e:=e,o:=some e}
noncomputable def Ex.ofS(s:Stmt):Ex:={Ex.bad with s:=s}
noncomputable def f_:List (Nat×NameKind)->List (Str×NameKind)
 | []=>[]
 | (i,k)::r=>(nm i,k)::f_ r
noncomputable def pn:FuncBody->Expr
 | .expr e=>e
 | _=>.Constant .none 0 ⟨0,0,0,0⟩
noncomputable def bodyT:FuncBody->List Stmt
 | .stmts l=>l
 | _=>[]
noncomputable abbrev b5(sc:List (Nat×NameKind)):Scope:={kind:=.function,names:=f_ sc,isGenerator:=false,isCoroutine:=false}
noncomputable def sqE(k:Sq)(x:Ex)(p:Pos):Expr:=match k with
 | .tup=>.Tuple x.l 0 p
 | .lst=>.List x.l p
 | .dct=>.Dict x.kk x.kv p
noncomputable def s1E(k:S1)(x:Ex)(p:Pos):Stmt:=match k with
 | .expr=>.Expr x.e p
 | .ret=>.Return x.o p
 | .raise=>.Raise (some x.e) none p
noncomputable def er:X->Ex
 | .lit l p=>.ofE (.Constant (ltE l) 0 p)
 | .nam _ i p=>.ofE (.Name (nm i) p)
 | .bin op l r p=>.ofE (.BinOp (er l).e (opE op) (er r).e p)
 | .un o x p=>.ofE (.UnaryOp (unE o) (er x).e p)
 | .ifx t b o p=>.ofE (.IfExp (er t).e (er b).e (er o).e p)
 | .bop a xs p=>.ofE (.BoolOp (boE a) (er xs).l p)
 | .cmp l o r p=>.ofE (.Compare (er l).e [iB o] [(er r).e] p)
 | .cmp2 l o m o2 r p=>.ofE (.Compare (er l).e [iB o,iB o2] [(er m).e,(er r).e] p)
 | .attr o a p=>.ofE (.Attribute (er o).e (nm a) p)
 | .sub o i p=>.ofE (.Subscript (er o).e (er i).e p)
 | .subs o lo hi st sp p=>.ofE (.Subscript (er o).e (.Slice (er lo).o (er hi).o (er st).o sp) p)
 | .sq k xs p=>.ofE (sqE k (er xs) p)
 | .call f xs p=>.ofE (.Call (er f).e (er xs).l [] p)
 | .mcall o a xs ap p=>.ofE (.Call (.Attribute (er o).e (nm a) ap) (er xs).l [] p)
 | .comp e t it ifs tp sc p=>.ofE (.ListComp (er e).e [⟨.Name (nm t) tp,(er it).e,(er ifs).l,0⟩] (b5 sc) p)
 | .lam k=>.ofE (.Lambda (ck k).1 (pn (ck k).2.1) (ck k).2.2 (cu k))
 | .nil=>Ex.bad
 | .cons x r=>{Ex.bad with
   l:=(er x).e::(er r).l,kk:=some (er x).e::(er r).vk,vk:=(er r).kk,kv:=(er r).vv,vv:=(er x).e::(er r).kv
   ss:=(er x).s::(er r).ss}
 | .s1 k e p=>.ofS (s1E k (er e) p)
 | .asg t e p=>.ofS (.Assign [(er t).e] (er e).e p)
 | .asgs _ ts ys p1 p2 p=>.ofS (.Assign [.Tuple (er ts).l 0 p1] (.Tuple (er ys).l 0 p2) p)
 | .iff t b o p=>.ofS (.If (er t).e (er b).ss (er o).ss p)
 | .for_ t it b p=>.ofS (.For (er t).e (er it).e (er b).ss [] p)
 | .forE ts x b tp np cp p=>.ofS (.For (.Tuple (er ts).l 0 tp) (.Call (.Name (nm 6) np) [(er x).e] [] cp) (er b).ss [] p)
 | .exc b C n h hp p=>.ofS (.Try (er b).ss [.ExceptHandler (some (er C).e) (n.map nm) (er h).ss hp] [] [] p)
 | .fin b f p=>.ofS (.Try (er b).ss [] [] (er f).ss p)
 | .def_ i k=>.ofS (.FunctionDef (nm i) (ck k).1 (bodyT (ck k).2.1) [] none [] (ck k).2.2 none (nm i) (cu k))
namespace Zx
abbrev l(i n:Nat):=X.nam .loc i (P n)
abbrev g(i n:Nat):=X.nam .glo i (P n)
abbrev c(i n:Nat):=X.nam .cel i (P n)
abbrev n(i:Int)(n:Nat):=X.lit (.int i) (P n)
abbrev s(i n:Nat):=X.lit (.str i) (P n)
abbrev B(o:Op)(x y:X)(n:Nat):=X.bin o x y (P n)
abbrev C(x:X)(o:Cm)(y:X)(n:Nat):=X.cmp x o y (P n)
abbrev a(x:X)(i n:Nat):=X.attr x i (P n)
abbrev m(o:X)(i:Nat)(xs:X)(p n:Nat):=X.mcall o i xs (P p) (P n)
abbrev f(x xs:X)(n:Nat):=X.call x xs (P n)
abbrev e(x:X)(n:Nat):=X.s1 .expr x (P n)
abbrev r(x:X)(n:Nat):=X.s1 .ret x (P n)
abbrev A(t x:X)(n:Nat):=X.asg t x (P n)
abbrev I(t b o:X)(n:Nat):=X.iff t b o (P n)
abbrev K:=X.cons
abbrev Z:=X.nil
abbrev n0(p:Nat):=X.lit (.int 0) (P p)
abbrev n1(p:Nat):=X.lit (.int 1) (P p)
abbrev n2(p:Nat):=X.lit (.int 2) (P p)
abbrev n3(p:Nat):=X.lit (.int 3) (P p)
abbrev n4(p:Nat):=X.lit (.int 4) (P p)
abbrev n5(p:Nat):=X.lit (.int 5) (P p)
abbrev n6(p:Nat):=X.lit (.int 6) (P p)
abbrev n7(p:Nat):=X.lit (.int 7) (P p)
abbrev n8(p:Nat):=X.lit (.int 8) (P p)
abbrev n9(p:Nat):=X.lit (.int 9) (P p)
abbrev n10(p:Nat):=X.lit (.int 10) (P p)
abbrev n11(p:Nat):=X.lit (.int 11) (P p)
abbrev lS(p:Nat):=X.lit (.int 12) (P p)
abbrev n13(p:Nat):=X.lit (.int 13) (P p)
abbrev n15(p:Nat):=X.lit (.int 15) (P p)
abbrev n16(p:Nat):=X.lit (.int 16) (P p)
abbrev n17(p:Nat):=X.lit (.int 17) (P p)
abbrev n19(p:Nat):=X.lit (.int 19) (P p)
abbrev n20(p:Nat):=X.lit (.int 20) (P p)
abbrev n21(p:Nat):=X.lit (.int 21) (P p)
abbrev n23(p:Nat):=X.lit (.int 23) (P p)
abbrev n25(p:Nat):=X.lit (.int 25) (P p)
abbrev n31(p:Nat):=X.lit (.int 31) (P p)
abbrev n32(p:Nat):=X.lit (.int 32) (P p)
abbrev n33(p:Nat):=X.lit (.int 33) (P p)
abbrev n35(p:Nat):=X.lit (.int 35) (P p)
abbrev n51(p:Nat):=X.lit (.int 51) (P p)
abbrev n55(p:Nat):=X.lit (.int 55) (P p)
abbrev n60(p:Nat):=X.lit (.int 60) (P p)
abbrev n63(p:Nat):=X.lit (.int 63) (P p)
abbrev n64(p:Nat):=X.lit (.int 64) (P p)
abbrev n77(p:Nat):=X.lit (.int 77) (P p)
abbrev n93(p:Nat):=X.lit (.int 93) (P p)
abbrev n99(p:Nat):=X.lit (.int 99) (P p)
abbrev n103(p:Nat):=X.lit (.int 103) (P p)
abbrev n111(p:Nat):=X.lit (.int 111) (P p)
abbrev n115(p:Nat):=X.lit (.int 115) (P p)
abbrev n127(p:Nat):=X.lit (.int 127) (P p)
abbrev n128(p:Nat):=X.lit (.int 128) (P p)
abbrev n150(p:Nat):=X.lit (.int 150) (P p)
abbrev n255(p:Nat):=X.lit (.int 255) (P p)
abbrev n256(p:Nat):=X.lit (.int 256) (P p)
abbrev n800(p:Nat):=X.lit (.int 800) (P p)
abbrev n1020(p:Nat):=X.lit (.int 1020) (P p)
abbrev n1023(p:Nat):=X.lit (.int 1023) (P p)
abbrev eE(p:Nat):=X.lit (.int 1024) (P p)
abbrev n1028(p:Nat):=X.lit (.int 1028) (P p)
abbrev n1536(p:Nat):=X.lit (.int 1536) (P p)
abbrev n1538(p:Nat):=X.lit (.int 1538) (P p)
abbrev n1552(p:Nat):=X.lit (.int 1552) (P p)
abbrev n1600(p:Nat):=X.lit (.int 1600) (P p)
abbrev n2048(p:Nat):=X.lit (.int 2048) (P p)
abbrev n3072(p:Nat):=X.lit (.int 3072) (P p)
abbrev n3200(p:Nat):=X.lit (.int 3200) (P p)
abbrev kK(p:Nat):=X.lit (.int 4096) (P p)
abbrev n8192(p:Nat):=X.lit (.int 8192) (P p)
abbrev n16384(p:Nat):=X.lit (.int 16384) (P p)
abbrev jO(p:Nat):=X.lit (.int 32768) (P p)
abbrev n32871(p:Nat):=X.lit (.int 32871) (P p)
abbrev n48271(p:Nat):=X.lit (.int 48271) (P p)
abbrev n65521(p:Nat):=X.lit (.int 65521) (P p)
abbrev n90001(p:Nat):=X.lit (.int 90001) (P p)
abbrev fq(p:Nat):=X.lit (.int 1048576) (P p)
abbrev jf(p:Nat):=X.lit (.int 33554432) (P p)
abbrev kL(p:Nat):=X.lit (.int 1073741824) (P p)
abbrev bZ(p:Nat):=X.lit (.int 2147483647) (P p)
abbrev v6(a b c d e f r:X):=K a (K b (K c (K d (K e (K f r)))))
abbrev w1(a:X):=K a Z
abbrev w2(a b:X):=K a (K b Z)
abbrev w3(a b c:X):=K a (K b (K c Z))
abbrev w4(a b c d:X):=K a (K b (K c (K d Z)))
abbrev w5(a b c d e:X):=K a (K b (K c (K d (K e Z))))
abbrev w6(a b c d e f:X):=K a (K b (K c (K d (K e (K f Z)))))
abbrev w7(a b c d e f g:X):=K a (K b (K c (K d (K e (K f (K g Z))))))
abbrev w8(a b c d e f g h:X):=K a (K b (K c (K d (K e (K f (K g (K h Z)))))))
abbrev tu(x:X)(n:Nat):=X.sq .tup x (P n)
abbrev li(x:X)(n:Nat):=X.sq .lst x (P n)
abbrev dc(x:X)(n:Nat):=X.sq .dct x (P n)
abbrev an(x:X)(n:Nat):=X.bop true x (P n)
abbrev pZ(x:X)(n:Nat):=X.bop false x (P n)
abbrev ng(x:X)(n:Nat):=X.un .neg x (P n)
abbrev nt(x:X)(n:Nat):=X.un .not_ x (P n)
abbrev sb(x y:X)(n:Nat):=X.sub x y (P n)
abbrev fr(x y z:X)(n:Nat):=X.for_ x y z (P n)
abbrev ix(x y z:X)(n:Nat):=X.ifx x y z (P n)
abbrev gt(x y:X)(n m p:Nat):=X.asgs true x y (P n) (P m) (P p)
abbrev gf(x y:X)(n m p:Nat):=X.asgs false x y (P n) (P m) (P p)
abbrev ss(x y z w:X)(n m:Nat):=X.subs x y z w (P n) (P m)
abbrev aE(x y:X)(n:Nat):=X.bin .add x y (P n)
abbrev aS(x y:X)(n:Nat):=X.bin .band x y (P n)
abbrev lR(x y:X)(n:Nat):=X.bin .bor x y (P n)
abbrev Bbxor(x y:X)(n:Nat):=X.bin .bxor x y (P n)
abbrev gD(x y:X)(n:Nat):=X.bin .fdiv x y (P n)
abbrev cG(x y:X)(n:Nat):=X.bin .mod x y (P n)
abbrev bu(x y:X)(n:Nat):=X.bin .mul x y (P n)
abbrev eB(x y:X)(n:Nat):=X.bin .shl x y (P n)
abbrev bQ(x y:X)(n:Nat):=X.bin .shr x y (P n)
abbrev bP(x y:X)(n:Nat):=X.bin .sub x y (P n)
abbrev aX(x y:X)(n:Nat):=X.cmp x .eq y (P n)
abbrev Cgt(x y:X)(n:Nat):=X.cmp x .gt y (P n)
abbrev Cis(x y:X)(n:Nat):=X.cmp x .is y (P n)
abbrev dl(x y:X)(n:Nat):=X.cmp x .isIn y (P n)
abbrev kg(x y:X)(n:Nat):=X.cmp x .isNot y (P n)
abbrev nV(x y:X)(n:Nat):=X.cmp x .lt y (P n)
abbrev ki(x y:X)(n:Nat):=X.cmp x .ne y (P n)
abbrev CnotIn(x y:X)(n:Nat):=X.cmp x .notIn y (P n)
section
local macro_rules | `($n:num) => `(nat_lit $n)
def x35:X:=w2 (e (m (g 7 761608) 5 (w2 (l 8 354908) (l 9 359108)) 1517608 2525608) 2525608) (A (a (l 8 341609) 9 761609) (l 9 350009) 1349609)
def x55:X:=w2 (e (m (g 10 845613) 5 (w2 (l 8 355613) (l 9 359813)) 1601613 2609613) 2609613) (A (a (l 8 341614) 11 593614) (l 11 180614) 1013614)
def x91:X:=w2 (A (l 12 254821) (m (l 13 427021) 14 (w1 (s 0 687421)) 931021 1771021) 2270821) (r (ix (kg (l 12 264622) (X.lit .non (P 356322)) 1272622) (l 12 259722) (ng (n1 112022) 195322) 2527722) 3110822)
def x105:X:=w5 (A (a (l 8 341634) 15 1181634) (f (g 16 353534) (w1 (a (l 17 609034) 15 1449034)) 1949534) 3365634) (A (a (l 8 341635) 18 593635) (a (l 17 600635) 18 852635) 1685635) (A (a (l 8 341636) 19 1013636) (a (l 17 604136) 19 1276136) 2525636) (A (a (l 8 341637) 20 929637) (a (l 17 603437) 20 1191437) 2357637) (A (a (l 8 341638) 21 677638) (a (l 17 601338) 21 937338) 1853638)
def x112:X:=w6 (fr (l 22 260441) (ss (a (l 17 601341) 21 937341) Z Z (ng (n1 107841) 191141) 357741 1441341) (w1 (I (an (w2 (aX (sb (l 22 262542) (n0 97342) 514542) (s 1 269542) 1102542) (X.cmp2 (l 23 443142) .le (sb (l 22 281442) (n1 116242) 533442) .lt (sb (a (l 8 371742) 15 1211742) (g 24 970242) 2303742) (P 3803142))) 5302542) (w1 (e (m (l 17 599243) 25 (w2 (sb (l 22 272343) (n1 107143) 524343) (sb (l 22 277943) (n2 112743) 529943)) 1019243 2363243) 2363243)) Z 13448442)) 24533641) (A (a (l 17 593644) 21 929644) (a (l 8 351444) 21 687444) 1853644) (fr (l 26 512445) (f (g 27 435445) (w1 (f (g 28 271645) (w1 (a (l 8 358445) 15 1198445)) 1615645)) 2199445) (w1 (A (sb (a (l 17 596446) 15 1436446) (l 26 525046) 2108446) (sb (a (l 8 364046) 15 1204046) (l 26 542546) 1876046) 4208446)) 15293645) (A (a (l 17 593647) 18 845647) (a (l 8 350747) 18 602747) 1685647) (A (a (l 17 593648) 19 1265648) (a (l 8 354248) 19 1026248) 2525648) (A (a (l 17 593649) 20 1181649) (a (l 8 353549) 20 941549) 2357649)
def x124:X:=w3 (A (l 29 506851) (f (g 28 261151) (w1 (X.comp (l 33 432651) 33 (a (l 30 697951) 31 1453951) (w1 (aX (a (l 33 460651) 34 796651) (s 2 1561751) 2644651)) (P 439651) [(32,.local),(33,.local)] (P 6143951))) 6561151) 7310851) (I (nV (f (g 28 256952) (w1 (l 35 595752)) 1012952) (l 29 519452) 1768952) (w1 (X.s1 .raise (f (g 36 1017853) (w1 (s 3 3126953)) 4293853) (P 4793653))) Z 15878852) (I (pZ (w2 (Cgt (f (g 28 256954) (w1 (l 35 595754)) 1012954) (l 29 519454) 1768954) (Cgt (f (g 28 274454) (w1 (l 35 613254)) 1030454) (g 37 1040954) 2290454)) 4372954) (w1 (X.s1 .raise (f (g 36 1017855) (w1 (s 4 3210955)) 4377855) (P 4877655))) Z 15962854)
def x131:X:=w3 (A (l 38 338857) (li (w2 (aE (a (l 39 596457) 40 1016457) (f (g 28 270957) (w1 (a (l 39 609757) 41 1029757)) 1446957) 2696457) (a (l 39 620257) 42 1460257)) 4459757) 5042857) (fr (tu (w2 (l 43 593658) (l 44 515958)) 1265658) (a (l 39 606958) 45 1026958) (w1 (e (m (l 38 341659) 0 (w1 (aE (l 43 602059) (f (g 28 273059) (w1 (l 44 527859)) 945059) 1778059)) 929659 2861659) 2861659)) 13946858) (r (f (g 46 259760) (w1 (l 38 346560)) 763760) 1346860)
def x138:X:=w7 (A (l 17 590862) (a (a (l 47 597862) 48 1185862) 17 1857862) 2690862) (A (l 49 422863) (bu (gD (bP (sb (a (l 17 597163) 15 1437163) (g 24 945763) 2529163) (g 50 284263) 3033163) (n16 205863) 3704463) (n16 209363) 4124463) 4790863) (X.forE (w2 (l 11 173664) (l 26 512464)) (l 35 610464) (w1 (A (sb (a (l 17 593665) 15 1433665) (aE (g 51 942265) (l 11 196065) 1362265) 2945665) (aS (l 26 536265) (g 52 1130565) 1880265) 5045665)) (P 845664) (P 771464) (P 1527464) (P 16130864)) (A (sb (a (l 17 590866) 15 1430866) (g 53 183466) 1766866) (a (a (l 47 607666) 39 1279666) 13 1783666) 3782866) (A (sb (a (l 17 590867) 15 1430867) (g 24 939467) 2522867) (l 49 445967) 3194867) (A (a (l 17 590868) 18 842868) (l 12 263968) 1346868) (r (l 49 427769) 1010869)
def x145:X:=w7 (A (l 48 506871) (a (l 47 597171) 48 1185171) 1934871) (A (l 49 422872) (f (g 54 596472) (w3 (l 47 602072) (l 12 272372) (l 35 611872)) 2528472) 3194872) (A (l 13 422873) (a (a (l 47 596473) 39 1268473) 13 1772473) 2438873) (X.fin (w2 (e (m (l 48 509675) 55 (w1 (aE (m (a (l 47 603475) 56 1107475) 57 Z 1695475 1863475) (li (w1 (l 13 453675)) 620975) 2703475)) 1097675 3953675) 3953675) (A (l 58 425676) (m (l 48 515276) 59 (w1 (g 60 861076)) 1103276 2111276) 2777676)) (w1 (e (m (l 48 509678) 61 Z 1097678 1265678) 1265678)) (P 44606874)) (A (l 62 590879) (an (w3 (aX (a (l 58 429879) 63 849879) (s 5 607679) 1773879) (aX (a (l 58 448079) 18 700079) (l 13 456479) 1456079) (aX (sb (a (a (l 48 548179) 17 1220179) 15 2060179) (g 24 985679) 3152179) (l 49 492879) 3908179)) 8073879) 8906879) (I (nt (l 62 595780) 928980) (w1 (X.s1 .raise (f (g 36 1017881) (w1 (s 6 2706981)) 3873881) (P 4373681))) Z 15458880) (r (sb (a (a (l 48 511782) 17 1183782) 15 2023782) (g 51 949282) 3115782) 3698882)
def x152:X:=w7 (e (m (l 47 590884) 64 Z 1430884 1598884) 1598884) (gt (w2 (l 12 254885) (l 17 594385)) (w2 (f (g 65 1022085) (w1 (l 30 695185)) 1862085) (a (a (l 47 618885) 48 1206885) 17 1878885)) 1010885 4045385 5294885) (I (nV (l 12 256986) (n0 93186) 592986) (w1 (X.s1 .raise (f (g 36 1017887) (w1 (s 7 2202987)) 3369887) (P 3869687))) Z 14954886) (e (f (g 66 1094888) (w2 (l 30 684688) (l 35 607688)) 2690888) 2690888) (gt (w2 (l 69 338889) (l 68 427089)) (w2 (f (g 67 349389) (w1 (l 17 604889)) 1105389) (a (l 47 611889) 68 1115889)) 926889 2532689 3698889) (A (a (l 17 590890) 21 926890) (li Z 180690) 1346890) (X.fin (w1 (r (f (g 70 262592) (w3 (l 47 601392) (l 12 271692) (l 35 611192)) 2194592) 2777692)) (w3 (e (m (l 69 341694) 71 (w2 (l 17 604894) (f (g 72 947194) (w1 (a (l 47 619594) 39 1291594)) 2375194)) 1265694 4541694) 4541694) (e (m (l 47 593695) 73 Z 1097695 1265695) 1265695) (A (a (l 47 593696) 68 1097696) (l 68 436896) 1769696)) (P 55862891))
def x166:X:=w5 (A (a (l 8 341702) 34 677702) (l 34 265402) 1181702) (A (a (l 8 341703) 74 845703) (li Z 182803) 1265703) (A (a (l 8 341704) 31 1097704) (li Z 184904) 1517704) (A (a (l 8 341705) 75 929705) (X.lit .non (P 351505)) 1517705) (A (a (l 8 341706) 76 929706) (g 77 603506) 1769706)
def x173:X:=w1 (e (m (a (l 8 341709) 74 845709) 0 (w1 (tu (w3 (l 78 355009) (l 79 359209) (l 14 447409)) 1614309)) 1433709 3197709) 3197709)
def x180:X:=w3 (A (a (l 33 425712) 75 1013712) (l 8 352212) 1601712) (e (m (a (l 8 341713) 31 1097713) 0 (w1 (l 33 440413)) 1685713 2273713) 2273713) (r (l 33 430614) 1013714)
def x187:X:=w2 (fr (l 80 344517) (a (l 8 350117) 74 854117) (w1 (I (aX (sb (l 80 346618) (n0 98118) 598618) (l 78 354318) 1270618) (w1 (r (sb (l 80 352219) (n2 103719) 604219) 1187319)) Z 12272518)) 23357717) (r (X.lit .non (P 346620)) 929720)
def x194:X:=w2 (fr (l 80 344523) (a (l 8 350123) 74 854123) (w1 (I (aX (sb (l 80 346624) (n0 98124) 598624) (l 78 354324) 1270624) (w1 (r (sb (l 80 352225) (n1 103725) 604225) 1187325)) Z 12272524)) 23357723) (r (s 8 178626) 761726)
def x216:X:=w8 (A (a (l 8 341731) 40 761731) (l 40 350131) 1349731) (A (a (l 8 341732) 13 845732) (l 13 434832) 1517732) (A (a (l 8 341733) 41 761733) (l 41 350133) 1349733) (A (a (l 8 341734) 45 761734) (l 45 350134) 1349734) (A (a (l 8 341735) 81 1349735) (l 81 943035) 2525735) (A (a (l 8 341736) 82 1097736) (l 82 688936) 2021736) (A (a (l 8 341737) 83 1013737) (l 83 604237) 1853737) (A (a (l 8 341738) 42 1181738) (l 42 773638) 2189738)
def x223:X:=w1 (e (f (g 84 425741) (w1 (n0 93941)) 677741) 677741)
def x230:X:=w1 (r (aE (a (l 8 346644) 40 766644) (f (g 28 271044) (w1 (a (l 8 357844) 41 777844)) 1195044) 2194644) 2777744)
def x237:X:=w1 (r (an (w2 (X.cmp2 (a (l 8 346647) 40 766647) .le (l 43 607747) .lt (m (l 8 362747) 85 Z 1118747 1286747) (P 3202647)) (aX (cG (bP (l 43 629447) (a (l 8 384447) 40 804447) 1637447) (n4 141547) 2140747) (n0 145047) 2560747)) 6142647) 6725747)
def x244:X:=w1 (e (f (g 84 425750) (w1 (n1 93950)) 677750) 677750)
def x264:X:=w2 (A (l 12 254961) (aS (l 14 427161) (bP (eB (n1 97461) (l 86 352961) 769461) (n1 106561) 1272761) 1939161) 2438961) (r (ix (aX (bQ (l 12 274562) (bP (l 86 363462) (n1 116362) 699462) 1282562) (n1 119862) 1702562) (bP (l 12 259862) (eB (n1 96762) (l 86 352262) 768762) 1435862) (l 12 292762) 4207862) 4790962)
def x271:X:=w2 (A (l 87 338964) (lR (eB (bQ (l 9 343864) (n31 181464) 847864) (lS 185664) 1351864) (eB (aS (bQ (l 9 357864) (n7 111464) 777864) (n1 114264) 1113864) (n11 202464) 1785164) 3367864) 3950964) (r (f (g 88 511865) (w2 (lR (lR (l 87 348765) (eB (aS (bQ (l 9 354365) (n25 191965) 858365) (n63 195465) 1278365) (n5 116365) 1865665) 2448765) (eB (aS (bQ (l 9 371865) (n8 125465) 791865) (n15 212265) 1211865) (n1 133165) 1799165) 4464765) (n13 219265)) 5467865) 6050965)
def x278:X:=w2 (A (l 87 338967) (lR (eB (bQ (l 9 343867) (n31 181467) 847867) (n20 185667) 1351867) (eB (aS (bQ (l 9 357867) (lS 195467) 861867) (n255 282967) 1365867) (lS 204567) 2037167) 3619867) 4202967) (r (f (g 88 511868) (w2 (lR (lR (l 87 348768) (eB (aS (bQ (l 9 354368) (n20 191968) 858368) (n1 111468) 1194368) (n11 199668) 1865668) 2448768) (eB (aS (bQ (l 9 371868) (n21 209468) 875868) (n1023 380968) 1463868) (n1 135268) 2051168) 4716768) (n21 221368)) 5719868) 6302968)
def x285:X:=w1 (r (ix (ki (l 89 187770) (s 8 191970) 691770) (tu (w4 (l 89 176570) (l 90 95370) (l 91 97470) (l 92 99570)) 1099870) (X.lit .non (P 365570)) 2947870) 3530970)
def x292:X:=w3 (A (l 89 170972) (s 8 174472) 590972) (I (aX (l 87 341073) (n0 94673) 761073) (w1 (A (l 89 173774) (sb (g 93 429274) (l 12 265474) 849274) 1265774)) (w1 (I (aX (l 87 342475) (n1 96075) 762475) (w1 (A (l 89 173776) (sb (g 94 681276) (l 12 267576) 1101276) 1517776)) (w1 (I (an (w2 (aX (l 87 342477) (n32 180077) 846477) (dl (l 12 268977) (tu (w2 (n0 106577) (n5 108677)) 525877) 1108977)) 2358477) (w1 (A (l 89 173778) (ix (aX (l 12 267578) (n0 104478) 687578) (s 9 429278) (s 10 445378) 2361278) 2777778)) Z 13862977)) 35366975)) 56870973) (r (f (g 95 763879) (w4 (l 89 182879) (aS (bQ (l 9 353679) (n7 107279) 773679) (n31 194079) 1193679) (aS (bQ (l 9 364879) (n15 202479) 868879) (n31 205979) 1288879) (aS (bQ (l 9 376779) (n20 214379) 880779) (n31 217879) 1300779)) 5299879) 5882979)
def x299:X:=w3 (gt (w2 (l 89 170981) (l 26 509781)) (w2 (sb (g 96 600781) (l 12 270381) 1020781) (f (g 88 526581) (w2 (bQ (l 9 363481) (n20 201081) 867481) (lS 203881)) 1870581)) 842981 3204081 4286981) (I (dl (l 12 257082) (tu (w2 (n1 94682) (n5 96782)) 513982) 1097082) (w2 (A (l 26 509783) (aS (bQ (l 9 348083) (n20 185683) 852083) (n31 189183) 1272083) 2021783) (I (an (w2 (aX (l 87 343884) (n32 181484) 847884) (aX (l 12 270384) (n5 107284) 690384)) 1939884) (w1 (A (l 89 176585) (s 11 516085) 932585)) (w1 (I (ki (l 87 345286) (n0 98886) 765286) (w1 (A (l 89 176587) (s 8 180087) 596587)) Z 11681786)) 33185784)) Z 55022982) (r (f (g 95 763888) (w4 (l 89 182888) (aS (bQ (l 9 353688) (n7 107288) 773688) (n31 194088) 1193688) (aS (bQ (l 9 364888) (n15 202488) 868888) (n31 205988) 1288888) (l 26 544788)) 4543888) 5126988)
def x306:X:=v6 (gt (w3 (l 97 338990) (l 12 259190) (l 87 346690)) (w3 (aS (l 9 352290) (n127 273190) 856290) (aS (bQ (l 9 360690) (lS 198290) 864690) (n7 117790) 1200690) (bQ (l 9 371890) (n25 209490) 875890)) 1262990 3375590 4874990) (gt (w3 (l 90 86991) (l 91 89091) (l 92 91191)) (w3 (aS (bQ (l 9 346691) (n7 100291) 766691) (n31 187091) 1186691) (aS (bQ (l 9 357891) (n15 195491) 861891) (n31 198991) 1281891) (aS (bQ (l 9 369791) (n20 207391) 873791) (n31 210891) 1293791)) 590991 4209991 5042991) (I (aX (l 97 341092) (n19 178692) 845092) (w1 (r (f (g 98 850693) (w3 (l 9 354393) (l 12 274593) (l 87 362093)) 2278693) 2861793)) Z 13946992) (I (aX (l 97 341094) (n51 178694) 845094) (w1 (r (f (g 99 1018695) (w3 (l 9 355795) (l 12 275995) (l 87 363495)) 2446695) 3029795)) Z 14114994) (I (aX (l 97 341096) (n3 94696) 761096) (w1 (r (f (g 95 766697) (w4 (sb (g 100 437697) (l 12 273897) 857697) (l 90 110097) (l 91 112197) (f (g 88 534297) (w2 (bQ (l 9 371197) (n20 208797) 875197) (lS 211597)) 1878297)) 4294697) 4877797)) Z 15962996) (I (aX (l 97 341098) (n35 178698) 845098) (w1 (r (f (g 95 766699) (w4 (sb (g 101 521699) (l 12 274599) 941699) (l 92 110799) (l 91 112899) (f (g 88 534999) (w2 (lR (eB (l 87 371899) (n5 125499) 791899) (l 90 128299) 1127899) (lS 214399)) 2130999)) 4630699) 5213799)) Z 16298998) (w6 (I (aX (l 97 341100) (n99 178700) 845100) (w1 (r (f (g 95 766701) (w4 (sb (g 102 689701) (l 12 276001) 1109701) (l 91 112201) (l 92 114301) (f (g 103 1292401) (w1 (l 9 379601)) 1796401)) 4462701) 5045801)) Z 16131000) (I (aX (l 97 341102) (n111 262702) 929102) (w1 (r (tu (w4 (s 12 431403) (l 90 100303) (n0 102403) (f (g 104 1112503) (w1 (l 9 366303)) 1616503)) 2866703) 3449803)) Z 14535002) (I (aX (l 97 341104) (n103 262704) 929104) (w1 (r (ix (aX (l 12 292105) (n0 129005) 712105) (tu (w4 (s 13 515405) (l 90 101005) (l 91 103105) (f (g 88 525205) (w2 (bQ (l 9 362105) (n20 199705) 866105) (lS 202505)) 1869205)) 3202705) (X.lit .non (P 385905)) 5050705) 5633805)) Z 16719004) (I (dl (l 97 341106) (tu (w2 (n55 179406) (n23 182206)) 682706) 1349106) (w1 (r (tu (w4 (ix (aX (l 97 353707) (n55 191307) 857707) (s 14 431407) (s 15 616907) 2699407) (l 90 119207) (n0 121307) (bQ (l 9 375407) (lS 213007) 879407)) 4378707) 4961807)) Z 16047006) (I (pZ (w2 (aX (l 9 341108) (g 105 430708) 1097108) (aX (l 9 353008) (g 106 946608) 1613008)) 3029108) (w1 (r (tu (w4 (ix (aX (l 9 355109) (g 105 444709) 1111109) (s 16 599409) (s 17 704409) 3203409) (n0 123409) (n0 125509) (n0 127609)) 4126709) 4709809)) Z 15795008) (r (X.lit .non (P 343910)) 927010))
def x313:X:=w1 (r (ix (aS (l 14 444720) (g 107 366320) 1032720) (bP (bP (l 14 427920) (g 108 685520) 1351920) (n1 105220) 1687920) (l 14 457320) 3955920) 4539020)
def x320:X:=w3 (A (l 109 255022) (aS (l 91 91222) (n31 178022) 511222) 1011022) (I (aX (l 89 173123) (s 18 429323) 929123) (w1 (r (eB (l 90 94724) (l 109 266224) 682724) 1265824)) Z 12351023) (r (ix (aX (l 89 184325) (s 19 440525) 940325) (bQ (l 90 91925) (l 109 263425) 679925) (bQ (f (g 110 784225) (w1 (l 90 119225)) 1036225) (l 109 291425) 1624225) 4039925) 4623025)
def x327:X:=w7 (I (aX (l 91 89127) (n0 92627) 509127) (w1 (r (ix (pZ (w2 (aX (l 89 187128) (s 20 443328) 943128) (aX (l 89 197628) (s 21 537828) 1037628)) 2287128) (g 108 682728) (l 90 126228) 3874728) 4457828)) Z 15543027) (I (aX (l 89 173129) (s 21 513329) 1013129) (w1 (r (gD (l 90 94730) (l 91 98230) 514730) 1097830)) Z 12183029) (I (aX (l 89 173131) (s 22 513331) 1013131) (w1 (r (cG (l 90 94732) (l 91 97532) 430732) 1013832)) Z 12099031) (gt (w2 (l 111 255033) (l 112 426533)) (w2 (f (g 110 768833) (w1 (l 90 103833)) 1020833) (f (g 110 778633) (w1 (l 91 113633)) 1030633)) 843033 2364133 3447033) (A (l 113 423034) (gD (f (g 114 260634) (w1 (l 111 263434)) 680634) (f (g 114 269034) (w1 (l 112 439834)) 857034) 1856634) 2523034) (I (ki (nV (l 111 257835) (n0 94035) 593835) (nV (l 112 434935) (n0 104535) 770935) 2021135) (w1 (A (l 113 425836) (ng (l 113 432136) 515436) 1181836)) Z 12267035) (r (ix (aX (l 89 182237) (s 20 438437) 938237) (l 113 427937) (bP (l 111 278137) (bu (l 113 450337) (l 112 455937) 1122337) 1622137) 3787937) 4371037)
def x334:X:=w3 (A (l 111 255039) (ix (aX (l 89 178739) (s 23 602939) 1102739) (l 90 91239) (f (g 110 780039) (w1 (l 90 115039)) 1032039) 3031239) 3531039) (A (l 112 423040) (ix (aX (l 89 187840) (s 24 528040) 1027840) (f (g 110 764640) (w1 (l 91 99640)) 1016640) (l 91 116440) 2948640) 3615040) (r (bQ (bu (l 111 259941) (l 112 432141) 931941) (n32 186441) 1435941) 2019041)
def x341:X:=v6 (I (aX (l 89 173143) (s 25 429343) 929143) (w1 (r (aE (l 90 94744) (l 91 97544) 430744) 1013844)) Z 12099043) (I (aX (l 89 173145) (s 9 429345) 929145) (w1 (r (bP (l 90 94746) (l 91 97546) 430746) 1013846)) Z 12099045) (I (aX (l 89 173147) (s 26 429347) 929147) (w1 (r (aS (l 90 94748) (l 91 97548) 430748) 1013848)) Z 12099047) (I (aX (l 89 173149) (s 27 345349) 845149) (w1 (r (lR (l 90 94750) (l 91 97550) 430750) 1013850)) Z 12099049) (I (aX (l 89 173151) (s 28 429351) 929151) (w1 (r (Bbxor (l 90 94752) (l 91 97552) 430752) 1013852)) Z 12099051) (I (pZ (w3 (aX (l 89 173153) (s 18 429353) 929153) (aX (l 89 183653) (s 19 439853) 939653) (aX (l 89 194153) (s 10 450353) 950153)) 3449153) (w1 (r (f (g 115 598754) (w3 (l 89 184354) (l 90 103154) (l 91 105254)) 1438754) 2021854)) Z 13107053) (w4 (I (aX (l 89 173155) (s 29 429355) 929155) (w1 (r (ix (nV (f (g 110 770256) (w1 (l 90 105256)) 1022256) (f (g 110 780756) (w1 (l 91 115756)) 1032756) 2282256) (n1 94756) (n0 121356) 3286756) 3869856)) Z 14955055) (I (aX (l 89 173157) (s 30 513357) 1013157) (w1 (r (ix (nV (l 90 98258) (l 91 101058) 434258) (n1 94758) (n0 105958) 1438758) 2021858)) Z 13107057) (I (aX (l 89 173159) (s 31 429359) 929159) (w1 (r (bu (l 90 94760) (l 91 97560) 430760) 1013860)) Z 12099059) (r (ix (aX (ss (l 89 194861) Z (n3 113661) Z 196961 530861) (s 31 453861) 1286861) (f (g 116 1099961) (w3 (l 89 185761) (l 90 104561) (l 91 106661)) 1939961) (f (g 117 713561) (w3 (l 89 215861) (l 90 134661) (l 91 136761)) 1553561) 5551961) 6135061))
def x348:X:=w3 (I (pZ (w2 (aX (l 89 173163) (s 32 429363) 929163) (aX (l 89 183663) (s 33 439863) 939663)) 2189163) (w1 (r (aX (aX (l 90 95464) (l 91 98964) 515464) (aX (l 89 187864) (s 32 444064) 943864) 2110764) 2693864)) Z 13779063) (I (pZ (w2 (aX (l 89 173165) (s 34 429365) 929165) (aX (l 89 183665) (s 35 439865) 939665)) 2189165) (w1 (gt (w2 (l 90 89866) (l 91 91966)) (w2 (f (g 110 767466) (w1 (l 90 102466)) 1019466) (f (g 110 777266) (w1 (l 91 112266)) 1029266)) 341866 2362766 2945866)) Z 14031065) (r (aX (nV (l 90 92667) (l 91 95467) 428667) (pZ (w2 (aX (l 89 184367) (s 34 440567) 940367) (aX (l 89 194867) (s 36 535067) 1034867)) 2284367) 3367967) 3951067)
def x355:X:=w1 (r (sb (dc (w6 (s 37 260669) (n1 96169) (s 38 266269) (n2 101769) (s 39 271869) (n4 107369)) 2023969) (sb (l 89 193469) (n1 111569) 445469) 2611969) 3195069)
def x369:X:=v6 (A (a (l 8 341873) 40 761873) (l 40 350273) 1349873) (A (a (l 8 341874) 118 761874) (l 118 350274) 1349874) (A (a (l 8 341875) 119 929875) (f (g 120 771675) (w1 (l 118 358675)) 1275675) 2441875) (A (a (l 8 341876) 15 1181876) (bu (li (w1 (n0 102476)) 269776) (n32 189976) 689776) 2105876) (A (a (l 8 341877) 18 593877) (l 40 348877) 1181877) (A (a (l 8 341878) 121 929878) (f (g 120 771678) Z 939678) 2105878) (w4 (A (a (l 8 341879) 20 929879) (n0 99679) 1265879) (A (a (l 8 341880) 19 1013880) (X.lit .fls (P 436380)) 1685880) (A (a (l 8 341881) 21 677881) (X.lit .non (P 349581)) 1265881) (A (a (l 8 341882) 122 845882) (dc Z 182982) 1265882))
def x376:X:=w3 (A (l 11 173885) (bP (l 43 597385) (a (l 8 352385) 40 772385) 1605385) 2021885) (I (pZ (w3 (nV (l 11 175986) (n0 95486) 511986) (nV (l 118 350986) (n0 103886) 686986) (Cgt (aE (l 11 191386) (l 118 362886) 779386) (a (l 8 367786) 118 787786) 1787386)) 3619986) (w1 (X.s1 .raise (f (g 123 348887) (w2 (s 40 688387) (a (l 8 359387) 18 611387)) 1944887) (P 2444687))) Z 13529886) (r (l 11 178788) 761888)
def x383:X:=w2 (A (l 11 173891) (m (l 8 345391) 124 (w2 (l 43 605091) (f (g 28 275391) (w1 (l 44 530191)) 947391)) 849391 2697391) 3113891) (A (ss (a (l 8 341892) 119 929892) (l 11 182292) (aE (l 11 184392) (f (g 28 271892) (w1 (l 44 526692)) 943892) 1360392) Z 1610292 2693892) (l 44 534392) 3449892)
def x390:X:=w2 (A (l 11 173895) (m (l 8 345395) 124 (w2 (l 43 605095) (l 118 359395)) 849395 2109395) 2525895) (r (f (g 125 430796) (w1 (ss (a (l 8 350996) 119 938996) (l 11 191396) (aE (l 11 193496) (l 118 364996) 781496) Z 1031396 2114996)) 2698796) 3281896)
def x397:X:=w3 (A (l 11 173899) (m (l 8 345399) 124 (w2 (l 43 605099) (f (g 28 275399) (w1 (l 44 530199)) 947399)) 849399 2697399) 3113899) (e (m (l 8 341900) 126 (w1 (tu (w3 (s 1 265600) (l 43 605100) (f (g 125 443400) (w1 (ss (a (l 8 363600) 119 951600) (l 11 204000) (aE (l 11 206100) (f (g 28 293600) (w1 (l 44 548400)) 965600) 1382100) Z 1632000 2715600)) 3299400)) 4632900)) 761900 5549900) 5549900) (A (ss (a (l 8 341901) 119 929901) (l 11 182301) (aE (l 11 184401) (f (g 28 271901) (w1 (l 44 526701)) 943901) 1360401) Z 1610301 2693901) (l 44 534401) 3449901)
def x404:X:=w1 (I (ki (l 26 512004) (n0 99004) 932004) (w2 (e (m (l 8 344705) 126 (w1 (tu (w3 (s 41 268405) (l 26 523905) (sb (a (l 8 361505) 15 1201505) (l 26 540005) 1873505)) 3123705)) 764705 4040705) 4040705) (A (sb (a (l 8 344706) 15 1184706) (l 26 523206) 1856706) (aS (l 14 446206) (g 108 703806) 1370206) 3452706)) Z 25289904)
def x411:X:=w4 (I (ki (aS (a (l 8 344009) 18 596009) (n3 99009) 932009) (n0 102509) 1352009) (w1 (X.s1 .raise (f (g 123 348910) (w2 (s 42 604410) (a (l 8 358710) 18 610710)) 1860910) (P 2360710))) Z 13445909) (A (l 9 341911) (m (g 127 262811) 4 (w2 (m (l 8 357311) 128 (w2 (a (l 8 364311) 18 616311) (n4 118611)) 777311 1785311) (s 43 709411)) 1186811 3958811) 4541911) (I (CnotIn (l 9 344012) (a (l 8 352412) 122 856412) 1856012) (w3 (A (l 113 428713) (f (g 129 518313) (w1 (l 9 355213)) 1022313) 1688713) (I (Cis (l 113 430814) (X.lit .non (P 353114)) 1102814) (w1 (X.s1 .raise (f (g 123 351715) (w2 (s 44 775215) (a (l 8 362915) 18 614915)) 2031715) (P 2531515))) Z 13616714) (A (sb (a (l 8 344716) 122 848716) (l 9 352416) 1352716) (l 113 442016) 2024716)) Z 45365912) (r (sb (a (l 8 346817) 122 850817) (l 9 354517) 1354817) 1937917)
def x418:X:=w2 (I (ki (aS (l 43 596020) (n3 99020) 932020) (n0 102520) 1352020) (w1 (X.s1 .raise (f (g 123 348921) (w2 (s 42 604421) (a (l 8 358721) 18 610721)) 1860921) (P 2360721))) Z 13445920) (r (aS (l 43 598822) (g 108 689822) 1522822) 2105922)
def x425:X:=w1 (I (kg (a (l 8 344025) 21 680025) (X.lit .non (P 355225)) 1688025) (w1 (e (m (a (l 8 344726) 21 680726) 0 (w1 (l 13 439926)) 1268726 1856726) 1856726)) Z 12941925)
def x432:X:=w1 (e (m (l 8 341929) 126 (w1 (tu (w2 (s 45 349629) (a (l 8 353829) 18 605829)) 1272929)) 761929 2189929) 2189929)
def x439:X:=w1 (A (a (l 8 341932) 18 593932) (aS (l 43 600932) (g 108 691932) 1524932) 2357932)
def x446:X:=w4 (A (l 43 593935) (aS (aE (sb (a (l 8 348935) 15 1188935) (l 40 359435) 1692935) (l 76 533035) 2448935) (g 108 707335) 3372935) 4205935) (I (ki (cG (l 43 596036) (l 130 435036) 1268036) (n0 105336) 1688036) (w1 (X.s1 .raise (f (g 123 348937) (w2 (s 42 604437) (a (l 8 358737) 18 610737)) 1860937) (P 2360737))) Z 13445936) (e (m (l 8 341938) 124 (w2 (l 43 601638) (l 130 439938)) 845938 2189938) 2189938) (r (l 43 598839) 1181939)
def x453:X:=w7 (A (l 130 425942) (f (g 131 683542) (w1 (l 89 185842)) 1019542) 1685942) (A (l 43 593943) (m (l 8 348943) 132 (w3 (l 91 105343) (l 92 107443) (l 130 445543)) 936943 2028943) 2861943) (e (m (l 8 341944) 133 Z 845944 1013944) 1013944) (I (aX (sb (l 89 176045) (n0 94145) 428045) (s 46 266345) 1016045) (w3 (A (l 12 260746) (aS (sb (a (l 8 348946) 15 1188946) (l 90 107446) 1440946) (bP (eB (n1 111646) (bu (n8 115146) (l 130 453946) 787146) 1203646) (n1 124246) 1706946) 3372946) 3872746) (e (m (l 8 344747) 134 (w2 (l 43 604447) (m (l 12 274747) 3 (w2 (l 130 451847) (s 43 708747)) 1030747 2458747)) 848747 4208747) 4208747) (r Z 512748)) Z 33101945) (A (l 14 425949) (m (g 127 263549) 4 (w2 (m (l 8 358049) 128 (w2 (l 43 617049) (l 130 455349)) 778049 2122049) (s 43 712949)) 1187549 4295549) 4961949) (I (an (w2 (ki (sb (l 89 176050) (ng (n1 94850) 178150) 512050) (s 47 267050) 1100050) (aX (bQ (l 14 440650) (bP (bu (n8 110950) (l 130 449750) 782950) (n1 119350) 1118950) 1868650) (n1 122850) 2288650)) 3788050) (w1 (A (l 14 428751) (bP (l 14 434351) (eB (n1 104651) (bu (n8 108151) (l 130 446951) 780151) 1196651) 2030351) 2696751)) Z 13781950) (e (m (l 8 341952) 135 (w2 (l 90 96252) (l 14 434352)) 677952 1517952) 1517952)
def x460:X:=w6 (A (l 136 341955) (a (l 8 346855) 18 598855) 1181955) (A (l 43 593956) (ix (aX (l 89 189356) (s 12 445556) 945356) (aE (l 136 348956) (l 92 101856) 684956) (aS (aS (aE (sb (a (l 8 369256) 15 1209256) (l 91 127756) 1461256) (l 92 131256) 1797256) (g 108 722056) 2721256) (X.un .inv (n1 142456) (P 225756)) 3141256) 5556956) 6389956) (A (l 137 341957) (m (l 8 346857) 137 (w1 (l 43 605857)) 766857 1522857) 2105957) (e (m (l 8 341958) 133 Z 845958 1013958) 1013958) (e (m (l 8 341959) 135 (w2 (l 90 96259) (aE (l 136 350359) (n4 103259) 686359)) 677959 1769959) 1769959) (e (m (l 8 341960) 138 (w1 (l 137 347560)) 593960 1097960) 1097960)
def x467:X:=w8 (A (l 139 341963) (sb (a (l 8 346863) 15 1186863) (g 140 189363) 1522863) 2105963) (I (an (w2 (ki (l 139 344064) (g 141 349664) 1016064) (ki (l 139 355964) (g 142 277564) 943964)) 2360064) (w1 (X.s1 .raise (f (g 123 348965) (w2 (s 16 604465) (a (l 8 358765) 18 610765)) 1860965) (P 2360765))) Z 13445964) (e (m (l 8 341966) 133 Z 845966 1013966) 1013966) (I (aX (l 139 344067) (g 141 349667) 1016067) (w4 (e (m (l 8 344768) 126 (w1 (tu (w2 (s 48 688468) (a (l 8 359468) 20 947468)) 1947768)) 764768 2864768) 2864768) (A (a (l 8 344769) 19 1016769) (X.lit .tru (P 355269)) 1604769) (A (a (l 8 344770) 20 932770) (f (g 110 774570) (w1 (sb (a (l 8 361570) 15 1201570) (g 143 540070) 1873570)) 2790570) 3956770) (r (s 49 517671) 1100771)) Z 44441967) (e (m (l 8 341972) 126 (w1 (tu (w2 (s 50 433672) (f (g 28 270572) (w1 (a (l 8 357372) 121 945372)) 1362572)) 2112972)) 761972 3029972) 3029972) (e (m (a (l 8 341973) 121 929973) 0 (w1 (aS (sb (a (l 8 355273) 15 1195273) (g 143 533773) 1867273) (n255 288773) 2371273)) 1517973 4037973) 4037973) (e (m (l 8 341974) 138 (w1 (aE (a (l 8 347574) 18 599574) (n4 102574) 935574)) 593974 1685974) 1685974) (r (s 8 178875) 761975)
def x474:X:=w6 (I (a (l 8 344078) 19 1016078) (w1 (r (s 49 517679) 1100779)) Z 12185978) (A (tu (w4 (l 89 173980) (l 90 92780) (l 91 94880) (l 92 96980)) 929980) (m (l 8 351780) 144 Z 1023780 1191780) 2357980) (I (aX (l 89 176081) (s 17 684281) 1184081) (w1 (r (s 5 601682) 1184782)) Z 12269981) (I (aX (l 89 176083) (s 16 600283) 1100083) (w1 (r (m (l 8 349684) 145 Z 853684 1021684) 1604784)) Z 12689983) (I (pZ (w2 (aX (l 89 176085) (s 12 432285) 932085) (aX (l 89 186585) (s 13 526785) 1026585)) 2276085) (w1 (e (m (l 8 344786) 146 (w4 (l 89 185186) (l 90 103986) (l 91 106086) (l 92 108186)) 932786 2024786) 2024786)) (w1 (I (dl (l 89 177487) (tu (w6 (s 32 434387) (s 33 439287) (s 34 444187) (s 35 449087) (s 36 537987) (s 51 543587)) 3709687) 4209487) (w4 (A (l 137 344788) (aE (a (l 8 349688) 18 601688) (n4 104688) 937688) 1520788) (I (f (g 147 430889) (w3 (l 89 183089) (sb (a (l 8 353889) 15 1193889) (l 90 112389) 1445889) (sb (a (l 8 367189) 15 1207189) (l 91 125689) 1459189)) 3958889) (w1 (A (l 137 347590) (m (l 8 352490) 137 (w1 (aE (a (l 8 359490) 18 611490) (l 92 114490) 947490)) 772490 1864490) 2447590)) Z 13532789) (e (m (l 8 344791) 133 Z 848791 1016791) 1016791) (e (m (l 8 344792) 138 (w1 (l 137 350392)) 596792 1100792) 1100792)) (w2 (e (m (l 8 344794) 148 (w4 (l 89 184494) (l 90 103294) (l 91 105394) (l 92 107494)) 848794 1940794) 1940794) (e (m (l 8 344795) 138 (w1 (aE (a (l 8 350395) 18 602395) (n4 105395) 938395)) 596795 1688795) 1688795)) 88037987)) 109541985) (r (s 8 178896) 761996)
def x481:X:=w3 (I (dl (l 89 176099) (tu (w8 (s 52 348999) (s 53 353199) (s 54 357399) (s 55 445599) (s 56 450499) (s 57 371399) (s 58 375599) (s 59 379799)) 4212299) 4712099) (w2 (e (m (l 8 344800) 73 (w4 (l 89 184500) (l 90 103300) (l 91 105400) (l 92 107500)) 848800 1940800) 1940800) (r Z 512801)) Z 22349999) (e (m (l 8 342002) 133 Z 846002 1014002) 1014002) (I (aX (l 89 176103) (s 14 432303) 932103) (w1 (e (m (l 8 344804) 135 (w2 (l 90 99104) (eB (l 92 101204) (lS 188704) 605204)) 680804 1688804) 1688804)) (w1 (I (aX (l 89 177505) (s 15 601705) 1101505) (w1 (e (m (l 8 344806) 135 (w2 (l 90 99106) (aE (a (l 8 353206) 18 605206) (eB (l 92 108906) (lS 196406) 612906) 1613206)) 680806 2696806) 2696806)) (w1 (I (aX (l 89 177507) (s 60 601707) 1101507) (w1 (e (m (l 8 344808) 135 (w2 (l 90 99108) (f (g 149 521208) (w3 (s 30 526108) (sb (a (l 8 363708) 15 1203708) (l 91 122208) 1455708) (aS (l 92 125008) (g 108 715808) 1049008)) 3965208)) 680808 5048808) 5048808)) (w1 (I (aX (sb (l 89 177509) (ng (n1 96309) 179609) 513509) (s 61 268509) 1101509) (w1 (e (m (l 8 344810) 135 (w2 (l 90 99110) (f (g 149 521210) (w3 (ss (l 89 190110) Z (ng (n1 109610) 192910) Z 276210 610110) (sb (a (l 8 364410) 15 1204410) (l 91 122910) 1456410) (aS (l 92 125710) (g 108 716510) 1049710)) 4049210)) 680810 5132810) 5132810)) (w1 (e (m (l 8 344812) 135 (w2 (l 90 99112) (f (g 149 521212) (w3 (l 89 190112) (sb (a (l 8 360912) 15 1200912) (l 91 119412) 1452912) (sb (a (l 8 374212) 15 1214212) (l 92 132712) 1466212)) 4049212)) 680812 5132812) 5132812)) 37722009)) 59226007)) 80730005)) 102234003)
def x503:X:=w3 (A (a (l 8 342020) 63 762020) (l 63 350420) 1350020) (A (a (l 8 342021) 18 594021) (l 18 181021) 1014021) (A (a (l 8 342022) 9 762022) (l 9 350422) 1350022)
def x524:X:=w4 (A (a (l 8 342026) 39 1014026) (l 39 604526) 1854026) (A (a (l 8 342027) 150 1098027) (dc Z 185227) 1518027) (A (a (l 8 342028) 9 762028) (s 8 182428) 1182028) (e (m (l 8 342029) 151 Z 846029 1014029) 1014029)
def x531:X:=v6 (A (l 39 594032) (a (l 8 349032) 39 1021032) 1854032) (A (l 17 594033) (f (g 152 601033) (w2 (a (l 39 606633) 40 1026633) (a (l 39 616433) 81 1624433)) 3541033) 4374033) (e (m (l 17 594034) 25 (w2 (a (l 39 603134) 40 1023134) (a (l 39 612934) 41 1032934)) 1014034 3366034) 3366034) (fr (tu (w2 (l 43 596835) (l 44 519135)) 1268835) (a (l 39 610135) 45 1030135) (w1 (e (m (l 17 596836) 25 (w2 (l 43 605936) (l 44 528236)) 1016836 2444836) 2444836)) 13530035) (A (a (l 17 594037) 18 846037) (a (l 39 603137) 13 1107137) 2190037) (A (l 153 258038) (aE (a (l 39 598238) 40 1018238) (a (l 39 608738) 81 1616738) 2866238) 3366038) (w4 (A (sb (a (l 17 594039) 15 1434039) (g 154 522639) 2106039) (bP (l 153 277639) (cG (l 153 281839) (n16 202039) 701839) 1201639) 3534039) (A (a (l 8 342040) 17 1014040) (l 17 604540) 1854040) (A (a (l 8 342041) 150 1098041) (dc Z 185241) 1518041) (A (a (l 8 342042) 9 762042) (s 8 182442) 1182042))
def x538:X:=w1 (r (a (a (l 8 346946) 17 1018946) 15 1858946) 2442046)
def x546:X:=w1 (r (a (a (l 8 346950) 17 1018950) 18 1270950) 1854050)
def x554:X:=w1 (r (a (a (l 8 346954) 17 1018954) 19 1690954) 2274054)
def x562:X:=w1 (fr (l 43 596857) (l 155 772557) (w1 (I (an (w2 (CnotIn (l 43 598958) (a (l 8 357458) 150 1113458) 2362958) (aX (cG (l 43 622058) (g 156 377058) 1210058) (n0 130658) 1630058)) 4378958) (w2 (A (sb (a (l 8 347659) 150 1103659) (l 43 609459) 1859659) (m (l 8 365159) 157 (w2 (l 43 624859) (g 156 379159)) 869159 2129159) 4211659) (e (m (a (l 8 347660) 17 1019660) 25 (w2 (l 43 612260) (g 158 1122560)) 1439660 3455660) 3455660)) Z 25292858)) 36378057)
def x569:X:=w2 (fr (l 43 596863) (f (g 159 520563) (w1 (a (l 8 357463) 150 1113463)) 1780563) (w1 (e (m (a (l 8 344864) 17 1016864) 25 (w2 (l 43 609464) (sb (a (l 8 363764) 150 1119764) (l 43 625564) 1875764)) 1436864 4208864) 4208864)) 15294063) (A (a (l 8 342065) 150 1098065) (dc Z 185265) 1518065)
def x576:X:=w1 (X.exc (w1 (r (m (a (l 8 349769) 17 1021769) 128 (w2 (l 43 614369) (l 118 368669)) 1441769 2701769) 3284869)) (g 123 346970) .none (w1 (X.s1 .raise (f (g 160 601071) (w1 (s 62 942671)) 1693071) (P 2192871))) (P 13278070) (P 34782068))
def x583:X:=w3 (A (l 113 426074) (f (g 120 767674) (w1 (m (l 8 354674) 157 (w2 (l 43 614374) (l 118 368674)) 858674 2118674)) 3035674) 3702074) (fr (l 124 428875) (f (g 159 519175) (w1 (a (l 8 356075) 150 1112075)) 1779175) (w1 (fr (l 11 179676) (f (g 27 435876) (w2 (f (g 46 272076) (w2 (l 124 442876) (l 43 615776)) 1616076) (f (g 161 286776) (w2 (aE (l 124 457576) (g 156 379176) 1045576) (aE (l 43 635376) (l 118 390376) 1223376)) 2806776)) 5139876) (w1 (A (sb (l 113 431677) (bP (l 11 183877) (l 43 607377) 1023877) 1607677) (sb (sb (a (l 8 363077) 150 1119077) (l 124 456877) 1707077) (bP (l 11 209777) (l 124 465277) 881777) 2715077) 4547677)) 15632876)) 26718075) (r (f (g 125 430978) (w1 (l 113 435178)) 1018978) 1602078)
def x590:X:=w5 (A (l 162 342081) (f (g 120 766981) (w1 (l 44 521981)) 1438981) 2022081) (e (m (l 8 342082) 157 (w2 (l 43 601782) (f (g 28 272082) (w1 (l 162 358882)) 776082)) 846082 2526082) 2526082) (I (nt (a (l 8 346983) 150 1102983) 1436183) (w2 (e (m (a (l 8 344884) 17 1016884) 134 (w2 (l 43 610184) (f (g 125 448484) (w1 (l 162 368684)) 952484)) 1520884 3368884) 3368884) (r Z 512885)) Z 22350083) (fr (l 124 428886) (f (g 159 519186) (w1 (a (l 8 356086) 150 1112086)) 1779186) (w3 (A (l 69 344887) (f (g 120 769787) (w1 (sb (a (l 8 356787) 150 1112787) (l 124 450587) 1700787)) 2617787) 3200887) (fr (l 11 179688) (f (g 27 435888) (w2 (f (g 46 272088) (w2 (l 124 442888) (l 43 615788)) 1616088) (f (g 161 286788) (w2 (aE (l 124 457588) (g 156 379188) 1045588) (aE (l 43 635388) (f (g 28 306388) (w1 (l 162 393188)) 810388) 1643388)) 3226788)) 5559888) (w2 (A (sb (l 69 347689) (bP (l 11 183189) (l 124 438689) 855189) 1355689) (sb (l 162 360989) (bP (l 11 196489) (l 43 619989) 1036489) 1536989) 3119689) (A (sb (l 162 347690) (bP (l 11 183190) (l 43 606690) 1023190) 1523690) (sb (g 158 1118390) (bP (l 11 204190) (l 124 459690) 876190) 2126390) 3875690)) 25712888) (A (sb (a (l 8 344891) 150 1100891) (l 124 438691) 1688891) (f (g 125 444991) (w1 (l 69 365191)) 948991) 2864891)) 56958086) (e (m (a (l 8 342092) 17 1014092) 25 (w2 (l 43 606692) (f (g 125 444992) (w1 (l 162 365192)) 948992)) 1434092 3282092) 3282092)
def x597:X:=w1 (e (m (a (l 8 342095) 17 1014095) 135 (w2 (l 163 689995) (l 26 528995)) 1350095 2862095) 2862095)
def x604:X:=w1 (e (f (g 84 426098) (w1 (n2 94298)) 678098) 678098)
def x611:X:=w1 (X.exc (w1 (r (m (a (l 8 349802) 17 1021802) 164 Z 1441802 1609802) 2192902)) (g 123 347003) (some 165) (w2 (A (a (l 8 344904) 9 764904) (a (l 165 437304) 9 857304) 1856904) (r (s 63 517805) 1100905)) (P 22938103) (P 44442101))
def x618:X:=w6 (A (l 136 342108) (a (a (l 8 347008) 17 1019008) 18 1271008) 1854108) (A (l 166 510109) (ix (m (l 8 365909) 167 (w1 (l 136 376409)) 1205909 1709909) (f (g 159 516409) (w1 (a (l 8 353309) 150 1109309)) 1776409) (ix (dl (l 136 391109) (a (l 8 396709) 150 1152709) 1819109) (li (w1 (l 136 384809)) 552109) (li Z 242009) 3324109) 7572409) 8322109) (fr (l 43 596910) (l 166 520610) (w1 (e (m (a (l 8 344911) 17 1016911) 25 (w2 (l 43 609511) (sb (a (l 8 363811) 150 1119811) (l 43 625611) 1875811)) 1436911 4208911) 4208911)) 15294110) (A (l 168 342112) (m (l 8 347012) 169 Z 767012 935012) 1518112) (fr (l 43 596913) (l 166 520613) (w2 (A (sb (a (l 8 344914) 150 1100914) (l 43 606714) 1856914) (m (a (l 8 362414) 17 1034414) 128 (w2 (l 43 627014) (g 156 381314)) 1454414 2714414) 4796914) (e (m (a (l 8 344915) 17 1016915) 25 (w2 (l 43 609515) (g 158 1119815)) 1436915 3452915) 3452915)) 25290113) (r (l 168 347016) 930116)
def x625:X:=w2 (I (nt (a (l 8 347019) 150 1103019) 1436219) (w1 (r (X.lit .fls (P 433820)) 1016920)) Z 12102119) (X.exc (w1 (r (dl (aS (sb (m (l 8 349822) 128 (w2 (l 136 356822) (g 156 361022)) 769822 1777822) (n0 113222) 2029822) (n127 284722) 2533822) (g 170 709622) 3541822) 4124922)) (g 160 599023) .none (w1 (r (X.lit .fls (P 433824)) 1016924)) (P 12102123) (P 33606121))
def x632:X:=w3 (I (aX (l 168 344227) (s 8 181827) 848227) (w1 (r (X.lit .non (P 349828)) 932928)) Z 12018127) (A (l 9 342129) (m (dc (w4 (s 63 515729) (a (l 8 353329) 9 773329) (s 5 613029) (s 5 619329)) 3119029) 1 (w2 (l 168 376429) (s 8 212629)) 3455029 4295029) 4878129) (r (f (g 171 431030) (w3 (ix (aX (l 168 358230) (s 49 531830) 1198230) (s 49 519230) (s 63 540230) 3039230) (a (a (l 8 377830) 17 1049830) 18 1301830) (l 9 389730)) 5555030) 6138130)
def x639:X:=w3 (fr (l 172 344933) (f (g 27 434533) (w1 (l 173 354733)) 938533) (w3 (I (an (w2 (Cgt (l 172 347034) (n0 99934) 683034) (dl (a (a (l 8 356134) 17 1028134) 18 1280134) (a (l 8 369434) 150 1125434) 2708134)) 3791034) (w1 (r (f (g 171 436635) (w3 (s 5 608835) (a (a (l 8 363135) 17 1035135) 18 1287135) (s 8 207035)) 2956635) 3539735)) Z 14624934) (A (l 113 428936) (m (l 8 350536) 174 (w1 (m (l 8 360336) 164 Z 780336 948336)) 1106536 2198536) 2864936) (I (kg (l 113 431037) (X.lit .non (P 356137)) 1439037) (w1 (r (l 113 436638) 1019738)) Z 12104937)) 55446133) (I (an (w2 (Cgt (l 173 344239) (n0 97139) 680239) (dl (a (a (l 8 353339) 17 1025339) 18 1277339) (a (l 8 366639) 150 1122639) 2705339)) 3788239) (w1 (r (f (g 171 433840) (w3 (s 5 606040) (a (a (l 8 360340) 17 1032340) 18 1284340) (s 8 204240)) 2953840) 3536940)) Z 14622139) (r (f (g 171 431041) (w3 (s 64 603241) (a (a (l 8 357541) 17 1029541) 18 1281541) (s 8 201441)) 2951041) 3534141)
def x654:X:=w5 (A (tu (w3 (l 35 591346) (l 11 177646) (l 175 600446)) 1683346) (l 176 355446) 2271346) (A (l 177 339347) (ix (nV (l 11 186747) (f (g 28 274247) (w1 (l 35 613047)) 1030247) 1446747) (sb (l 35 596247) (l 11 181847) 932247) (l 175 622847) 3788247) 4371347) (A (sb (l 176 339348) (n1 90848) 591348) (aE (l 11 178348) (n1 97848) 514348) 1347348) (A (sb (l 176 339349) (n2 90849) 591349) (cG (aE (aE (aE (bu (l 175 599049) (n48271 438049) 1271049) (cG (l 177 359649) (n65521 448549) 1031649) 2531049) (bu (n7 118149) (l 11 204949) 538149) 3287049) (n13 208449) 3707049) (bZ 884649) 4966349) 5799349) (r (cG (l 177 344250) (l 118 349150) 932250) 1515350)
def x661:X:=w7 (A (tu (w4 (l 89 171352) (l 90 90152) (l 91 92252) (l 92 94352)) 927352) (l 22 265152) 1431352) (I (aX (l 89 173453) (s 65 513653) 1013453) (w1 (r (aE (aE (aE (bu (cG (l 92 95054) (kK 349854) 683054) (fq 606754) 1523054) (bu (l 91 109754) (jO 448554) 781754) 2531054) (bu (l 90 118154) (n128 288954) 622154) 3371054) (n19 209154) 3791054) 4374154)) Z 15459353) (I (aX (l 89 173455) (s 54 345655) 845455) (w1 (r (aE (aE (aE (aE (bu (cG (l 92 95056) (kK 349856) 683056) (fq 606756) 1523056) (bu (l 91 109756) (jO 448556) 781756) 2531056) (n8192 370156) 3119056) (bu (l 90 123056) (n128 293856) 627056) 3959056) (n3 130056) 4295056) 4878156)) Z 15963355) (I (aX (l 89 173457) (s 59 345657) 845457) (w1 (r (aE (aE (aE (aE (aE (bu (gD (cG (l 92 95058) (kK 349858) 683058) (n32 187458) 1187058) (jf 694958) 2111058) (bu (l 90 114658) (fq 621458) 954658) 3287058) (bu (l 91 124458) (jO 463258) 796458) 4295058) (n8192 384858) 4883058) (bu (cG (l 92 137758) (n32 224558) 557758) (n128 312058) 1061758) 6143058) (n35 232258) 6563058) 7146158)) Z 18231357) (I (dl (l 89 173459) (tu (w3 (s 16 598359) (s 66 436659) (s 67 441559)) 1941659) 2441459) (w1 (r (sb (dc (w6 (s 16 599760) (n115 270060) (s 66 441560) (n0 110460) (s 67 448560) (n32871 453460)) 3203060) (l 89 206360) 3539060) 4122160)) Z 15207359) (A (l 178 339361) (sb (dc (w8 (s 25 428961) (n0 97861) (s 9 435961) (kL 860861) (s 28 449261) (n16384 454161) (s 31 459061) (jf 715961)) 5048261) (l 89 218961) 5384261) 5967361) (r (aE (aE (aE (aE (l 178 344262) (bu (l 92 97162) (fq 603962) 937162) 1520262) (bu (l 91 106962) (jO 445762) 778962) 2528262) (bu (l 90 115362) (n128 286162) 619362) 3368262) (n51 206362) 3788262) 4371362)
def x668:X:=w4 (A (l 179 255364) (f (g 180 763564) (w2 (l 176 350564) (n4 102764)) 1519564) 2019364) (I (nV (l 179 257465) (n2 93665) 593465) (w1 (r (li (w2 (tu (w4 (s 65 516466) (n17 186066) (n0 104866) (n1 106966)) 1523766) (tu (w4 (s 16 614466) (n0 116766) (n0 118866) (n0 120966)) 1537766)) 3371066) 3954166)) Z 15039365) (I (aX (l 179 257467) (n2 94367) 677467) (w1 (r (li (w1 (tu (w4 (s 65 516468) (n2 102068) (n2 104168) (sb (tu (w4 (ng (n32 191668) 274968) (ng (n16 195168) 278468) (n16 197968) (n32 200768)) 1534268) (f (g 180 791568) (w2 (l 176 378568) (n4 130768)) 1547568) 3214268)) 4547768)) 4715068) 5298168)) Z 16383367) (r (li (w1 (tu (w4 (s 54 345669) (l 90 97869) (n0 99969) (sb (tu (w2 (n0 102769) (n1538 356869)) 774069) (f (g 180 781069) (w2 (l 176 368069) (n2 120269)) 1537069) 2454069)) 3620969)) 3788269) 4371369)
def x675:X:=w5 (A (l 181 759371) (li Z 179771) 1179371) (fr (l 172 342172) (f (g 27 431772) (w1 (f (g 180 771972) (w2 (l 176 358972) (n9 111172)) 1527972)) 2111772) (w2 (gt (w3 (l 179 258173) (l 90 93673) (l 91 95773)) (w3 (f (g 180 771273) (w2 (l 176 358273) (n8 110473)) 1527273) (sb (g 182 869273) (f (g 180 792973) (w2 (l 176 379973) (lS 216173)) 1632973) 2633273) (sb (g 182 892373) (f (g 180 816073) (w2 (l 176 403073) (lS 239273)) 1656073) 2656373)) 762173 7238573 8238173) (I (aX (l 179 260274) (n0 97174) 680274) (w1 (e (m (l 181 764975) 0 (w1 (tu (w4 (s 65 525575) (l 90 111175) (l 91 113275) (bP (f (g 180 787375) (w2 (l 176 374375) (kK 378575)) 1795375) (n2048 384175) 2383375)) 3716875)) 1352975 5216975) 5216975)) (w1 (I (nV (l 179 261676) (n3 97876) 597676) (w2 (A (l 92 92977) (sb (g 182 851777) (f (g 180 775477) (w2 (l 176 362477) (lS 198677)) 1615477) 2615777) 2948977) (e (m (l 181 764978) 0 (w1 (tu (w4 (sb (tu (w4 (s 25 442278) (s 9 447178) (s 28 452078) (s 31 456978)) 2373578) (f (g 180 797878) (w2 (l 176 384878) (n4 137078)) 1553878) 4053578) (l 90 140578) (l 91 142678) (l 92 144778)) 4976878)) 1352978 6476978) 6476978)) (w1 (I (nV (l 179 261679) (n6 97879) 597679) (w1 (e (m (l 181 764980) 0 (w1 (tu (w4 (ix (nV (l 179 279180) (n5 115380) 615180) (s 59 357580) (s 54 372280) 2121580) (l 90 124480) (n2 126580) (bP (bu (n4 128680) (f (g 180 803480) (w2 (l 176 390480) (n33 226680)) 1643480) 1976680) (n32 230880) 2396680)) 5312880)) 1352980 6812980) 6812980)) (w1 (I (aX (l 179 261681) (n6 98581) 681681) (w1 (e (m (l 181 764982) 0 (w1 (tu (w4 (sb (tu (w2 (s 59 358282) (s 54 362482)) 1029582) (f (g 180 786682) (w2 (l 176 373682) (n2 125882)) 1542682) 2709582) (l 90 129382) (n0 131482) (aE (n1536 385582) (bu (n4 138482) (f (g 180 813282) (w2 (l 176 400282) (n4 152482)) 1569282) 1902482) 2485582)) 5984882)) 1352982 7484982) 7484982)) (w1 (A (l 181 764984) (aE (l 181 773384) (f (g 183 1117784) (w2 (l 176 371584) (l 90 123784)) 1873784) 2873384) 3872984)) 36462181)) 57966179)) 90222176)) 111726174)) 133563372) (A (l 179 255385) (f (g 180 763585) (w2 (l 176 350585) (n8 102785)) 1519585) 2019385) (I (aX (l 179 257486) (n6 94386) 677486) (w1 (r (aE (l 181 767087) (li (w2 (tu (w4 (s 65 524887) (n17 194487) (n0 113287) (n93 199387)) 1616187) (tu (w4 (s 16 623587) (n0 125887) (n0 127987) (n0 130087)) 1546887)) 3463487) 4463087) 5046187)) Z 16131386) (r (aE (l 181 764288) (li (w1 (tu (w4 (ix (aX (l 179 276388) (n7 113288) 696388) (s 66 438088) (s 67 454188) 2370088) (n0 123088) (n0 125188) (n0 127288)) 3293388)) 3460688) 4460288) 5043388)
def x682:X:=w3 (I (aX (l 89 173490) (s 28 429690) 929490) (w1 (r (Bbxor (l 111 263091) (l 112 435291) 935091) 1518191)) Z 12603390) (I (aX (l 89 173492) (s 31 429692) 929492) (w1 (r (cG (bu (l 111 263093) (l 112 435293) 935093) (g 184 692893) 1859093) 2442193)) Z 13527392) (r (cG (ix (aX (l 89 187494) (s 9 443694) 943494) (bP (l 111 260994) (l 112 433194) 932994) (aE (l 111 283394) (l 112 455594) 955394) 3620994) (g 184 713894) 4712294) 5295394)
def x689:X:=w6 (A (tu (w4 (l 89 171396) (l 90 90196) (l 91 92296) (l 92 94396)) 927396) (l 22 265196) 1431396) (A (l 43 591397) (cG (aE (sb (sb (l 185 347097) (s 68 938597) 1439097) (l 91 107697) 1691097) (l 92 111197) 2027097) (g 184 702697) 3118397) 3951397) (I (pZ (w3 (ki (cG (l 43 593498) (n4 96498) 929498) (n0 99998) 1349498) (nV (l 43 607498) (eE 362498) 1195498) (Cgt (aE (l 43 620098) (n4 123098) 956098) (kK 377898) 1544098)) 4709498) (w1 (r (X.lit .fls (P 431099)) 1014199)) Z 12099398) (A (l 11 171400) (bP (l 43 594900) (eE 349900) 1182900) 1599400) (I (aX (l 89 173501) (s 54 345701) 845501) (w1 (A (sb (sb (l 185 342202) (s 68 933702) 1434202) (l 90 102802) 1686202) (m (g 127 274302) 4 (w2 (ss (sb (l 185 368802) (s 40 708302) 1208802) (l 11 211302) (aE (l 11 213402) (n4 132902) 549402) Z 799302 2132802) (s 43 723702)) 1198302 4306302) 6222202)) (w3 (A (l 44 510204) (m (sb (sb (l 185 348504) (s 68 940004) 1440504) (l 90 109104) 1692504) 3 (w2 (n4 117504) (s 43 707604)) 2448504 3540504) 4290204) (A (ss (sb (l 185 342205) (s 40 681705) 1182205) (l 11 184705) (aE (l 11 186805) (n4 106305) 522805) Z 772705 2106205) (l 44 529805) 2862205) (e (m (sb (l 185 342206) (s 69 681706) 1182206) 0 (w1 (tu (w2 (l 43 610306) (l 44 532606)) 1449606)) 1770206 3366206) 3366206)) 57459401) (r (X.lit .tru (P 344307)) 927407)
def x696:X:=w3 (gt (w2 (l 15 759409) (l 186 431109)) (w2 (sb (l 185 353409) (s 68 944909) 1445409) (sb (sb (l 185 366709) (s 68 958209) 1458709) (n2 127309) 1710709)) 1347409 3460709 5043409) (X.forE (w2 (l 11 174210) (l 22 261010)) (l 187 356910) (w5 (A (tu (w4 (l 89 174211) (l 90 93011) (l 91 95111) (l 92 97211)) 930211) (l 22 268011) 1434211) (I (pZ (w2 (an (w2 (Cgt (l 11 176312) (n0 95812) 512312) (dl (aE (n1028 352012) (bu (n4 104912) (l 11 191712) 524912) 1108012) (l 56 447912) 1864012)) 2780312) (aX (l 89 202212) (s 66 458412) 958212)) 4040312) (w1 (r (X.lit .fls (P 433913)) 1017013)) Z 12102212) (I (aX (l 89 176314) (s 67 432514) 932314) (w1 (r (aX (sb (l 15 769915) (n2 104915) 1021915) (l 186 445115) 1777915) 2361015)) Z 13446214) (I (aX (l 89 176316) (s 16 600516) 1100316) (w2 (I (ki (sb (l 15 767117) (n17 186117) 1103117) (n1 107017) 1523117) (w1 (r (X.lit .fls (P 436718)) 1019818)) Z 12105017) (e (m (sb (l 185 345019) (s 50 432519) 933019) 0 (w1 (cG (sb (l 15 778319) (n10 197319) 1114319) (n256 285519) 1618319)) 1521019 3285019) 3285019)) (w1 (I (dl (l 89 177720) (tu (w2 (s 54 350620) (s 59 354820)) 1021920) 1521720) (w1 (I (nt (f (g 188 937921) (w2 (l 185 358321) (l 22 278521)) 1861921) 2195121) (w1 (r (X.lit .fls (P 436722)) 1019822)) Z 12105021)) (w1 (A (sb (l 15 765024) (l 90 100024) 1017024) (f (g 189 1111524) (w3 (l 89 197324) (sb (l 15 788124) (l 91 123124) 1040124) (ix (aX (l 89 221124) (s 65 561324) 1061124) (cG (l 92 125924) (g 184 716724) 1049924) (sb (l 15 821724) (l 92 156724) 1073724) 3905924)) 6655524) 7905024)) 51246220)) 94254216) (A (sb (l 15 762225) (n0 97225) 1014225) (n0 100725) 1350225)) (P 594210) (P 769910) (P 1273910) (P 162963410)) (r (X.lit .fls (P 428326)) 1011426)
def x703:X:=w4 (gt (w2 (l 191 675428) (l 192 346428)) (w2 (f (g 190 436028) (w1 (s 70 1028228)) 1612028) (f (g 180 786728) (w2 (l 176 373728) (n7 125928)) 1542728)) 1179428 3459328 4875428) (I (l 193 677529) (w2 (e (m (l 191 678230) 194 (w3 (s 0 687330) (s 71 526330) (n1028 363930)) 1014230 3030230) 3030230) (e (m (l 191 678231) 194 (w3 (s 72 771331) (s 73 611031) (l 118 365331)) 1014231 3198231) 3198231)) Z 25035429) (fr (l 172 342232) (f (g 27 431832) (w1 (l 192 352032)) 935832) (w2 (e (m (l 191 678233) 135 (w1 (f (g 190 435333) (w1 (s 2 1531533)) 2115333)) 1014233 3282233) 3282233) (I (aX (l 172 344334) (n1 97934) 764334) (w1 (e (m (l 191 681035) 135 (w1 (f (g 190 438135) (w1 (s 74 862335)) 1446135)) 1017035 2613035) 2613035)) Z 13698234)) 35535432) (r (tu (w2 (l 191 681036) (l 192 352036)) 1352336) 1935436)
def x708:X:=w6 (fr (l 11 174238) (f (g 27 430438) (w2 (n1 98638) (n32 184738)) 1018438) (w1 (A (sb (a (l 17 594239) 15 1434239) (l 11 186839) 1770239) (cG (bu (ix (aX (cG (l 11 213439) (n5 132939) 549439) (n0 136439) 969439) (f (g 180 779739) (w2 (l 176 366739) (bZ 874939)) 2291739) (bu (n77 225339) (l 11 228839) 645339) 4643739) (n2 149039) 5147039) (g 184 739839) 6071039) 8070239)) 19155438) (A (sb (a (l 17 591440) 15 1431440) (n2 100040) 1683440) (aE (n3200 355540) (bu (n4 108440) (f (g 180 783240) (w2 (l 176 370240) (n150 290440)) 1707240) 2040440) 2623540) 4539440) (e (m (l 17 591441) 25 (w2 (n3072 348541) (f (g 125 436741) (w1 (X.comp (cG (aE (bu (n7 106341) (l 11 193141) 526341) (gD (l 11 196641) (n256 284841) 784641) 1534341) (n256 289741) 2205641) 11 (f (g 27 467541) (w1 (eE 387741)) 971541) Z (P 211341) [(32,.local),(11,.local)] (P 4220941))) 4804741)) 1011441 6471441) 6471441) (A (a (l 17 591442) 18 843442) (aE (eE 348542) (bu (n4 101442) (f (g 180 776242) (w2 (l 176 363242) (n3 115442)) 1532242) 1865442) 2448542) 3531442) (A (a (l 17 591443) 20 1179443) (f (g 180 771343) (w2 (l 176 358343) (n5 110543)) 1527343) 2943443) (A (a (l 17 591444) 21 927444) (ix (aX (f (g 180 781844) (w2 (l 176 368844) (n2 121044)) 1537844) (n0 125244) 1957844) (li (w1 (tu (w2 (s 45 350644) (eE 354844)) 1021944)) 1189244) (X.lit .non (P 382144)) 4297244) 5463444)
def x715:X:=w2 (A (l 21 255446) (ix (Cis (a (l 17 601246) 21 937246) (X.lit .non (P 359746)) 1609246) (X.lit .non (P 343646)) (f (g 16 366746) (w1 (a (l 17 622246) 21 958246)) 1458746) 4207646) 4707446) (r (tu (w5 (f (g 16 345047) (w1 (a (l 17 600547) 15 1440547)) 1941047) (a (l 17 614547) 18 866547) (a (l 17 622947) 20 1210947) (a (l 17 634147) 19 1306147) (l 21 310047)) 6308347) 6891447)
def x722:X:=w1 (X.exc (w1 (r (tu (w2 (X.lit .tru (P 347850)) (f (g 195 520050) (w3 (l 47 608950) (l 30 699250) (l 35 622250)) 2872050)) 3539150) 4122250)) (g 36 1016351) .none (w1 (r (tu (w2 (X.lit .fls (P 431852)) (n0 100752)) 851152) 1434252)) (P 12519451) (P 34023449))
def x729:X:=w4 (A (l 15 759454) (f (g 16 347854) (w1 (a (l 17 603354) 15 1443354)) 1943854) 2943454) (X.forE (w2 (l 11 174255) (l 196 429055)) (l 35 610355) (w1 (A (sb (l 15 762256) (aE (n10 181256) (l 11 184756) 601256) 1518256) (cG (l 196 440956) (g 184 698556) 1364956) 3114256)) (P 762255) (P 771355) (P 1527355) (P 14199455)) (gf (w2 (sb (l 15 759457) (n1 94457) 1011457) (sb (l 15 769257) (n2 104257) 1021257)) (w2 (eE 360457) (bu (gD (bP (sb (l 15 785357) (n2 120357) 1037357) (n64 207857) 1457357) (n16 212757) 2128657) (n16 216257) 2548657)) 2187457 3215757 5631457) (r (dc (w8 (s 68 933058) (l 15 774158) (s 40 697858) (f (g 120 788858) (w1 (a (l 17 627858) 119 1215858)) 2132858) (s 69 723758) (li Z 226758) (s 50 481558) (li Z 234458)) 7232358) 7815458)
def x734:X:=v6 (A (c 176 339460) (li (w3 (X.comp (cG (l 196 429760) (bZ 855360) 1521760) 196 (ss (l 197 536160) Z (n60 205760) Z 289060 956160) Z (P 445860) [(32,.local),(196,.local)] (P 3789060)) (n0 125960) (n90001 464060)) 4796360) 5379460) (gf (w2 (c 198 675461) (l 193 682461)) (w2 (ki (f (g 180 774861) (w2 (c 176 361861) (lS 198061)) 1614861) (n11 202961) 2118861) (ki (f (g 180 793761) (w2 (c 176 380761) (lS 216961)) 1633761) (n11 221861) 2137761)) 1515461 4554161 6303461) (gt (w2 (l 12 255462) (l 199 1182962)) (w2 (sb (tu (w2 (n0 104262) (n1600 358362)) 775562) (f (g 180 782562) (w2 (c 176 369562) (n2 121762)) 1538562) 2455562) (f (g 180 797262) (w2 (c 176 384262) (n6 136462)) 1553262)) 1599462 4302862 6135462) (A (l 35 591463) (X.comp (bP (bu (f (g 180 767163) (w2 (c 176 354163) (bZ 862363)) 2279163) (n3 116163) 2615163) (bZ 874963) 3707163) 172 (f (g 27 471063) (w1 (n8 139263)) 723063) Z (P 381463) [(32,.local),(172,.local),(180,.globalImplicit),(176,.free)] (P 5638463)) 6471463) (A (l 187 339464) (f (g 200 764364) (w1 (c 176 351364)) 1268364) 1851464) (A (l 41 339465) (m (X.lit (.byt []) (P 260365)) 2 (w1 (X.comp (m (f (g 201 771365) (w1 (l 22 274365)) 1191365) 3 (w2 (n4 116165) (s 43 706265)) 1947365 3039365) 22 (aE (li (w1 (tu (w4 (s 65 554365) (n0 139965) (n0 142065) (n0 144165)) 1477665)) 1644965) (l 187 400365) 2232965) Z (P 296065) [(32,.local),(22,.local),(201,.globalImplicit)] (P 6398665))) 680365 7232365) 7815465) (v6 (A (tu (w2 (l 30 675466) (l 192 346466)) 1179466) (f (g 202 1107366) (w3 (c 176 361166) (l 193 701366) (bu (n4 120366) (f (g 28 291166) (w1 (l 187 377966)) 795166) 1128366)) 3711366) 5127466) (A (l 35 591467) (ss (l 35 598467) Z (f (g 46 268767) (w2 (n0 103567) (aE (l 192 357667) (m (dc (w4 (n4 111267) (ng (n1 114067) 197367) (n5 116167) (n1 118267)) 1118567) 1 (w2 (l 199 1215167) (n0 134367)) 1454567 3050567) 3633667)) 4300767) Z 4384067 5134467) 5967467) (A (c 56 423468) (ix (aX (f (g 180 789568) (w2 (c 176 376568) (n3 128768)) 1545568) (n0 132968) 1965568) (li (w1 (aE (n1028 345768) (bu (n4 98668) (f (g 180 773468) (w2 (c 176 360468) (n9 112668)) 1529468) 1862668) 2445768)) 2613068) (li Z 221868) 5553068) 6219468) (A (l 39 591469) (f (g 203 598469) (w8 (eE 352069) (eE 356269) (l 41 360469) (li (w1 (tu (w2 (n1536 366069) (f (g 125 454269) (w1 (f (g 27 458469) (w1 (n16 210669)) 794469)) 1378269)) 2045369)) 2212669) (n3072 384269) (dc Z 220469) (dc Z 223269) (l 12 310069)) 6058469) 6891469) (gf (w2 (l 48 507470) (c 47 597070)) (w2 (f (g 204 520770) (w1 (l 39 609670)) 1276770) (f (g 171 448670) (w3 (s 8 200870) (n0 119670) (s 8 205770)) 1372670)) 1263470 2956070 4455470) (A (l 17 591471) (a (l 48 514471) 17 1186471) 2019471) (v6 (e (f (g 205 759472) (w2 (c 176 346472) (l 17 602672)) 2019472) 2019472) (gf (w4 (a (c 47 591473) 48 1179473) (a (c 47 602673) 39 1274673) (a (c 47 614573) 56 1118573) (a (c 47 625073) 68 1129073)) (w4 (l 48 552973) (l 39 642573) (f (g 171 480873) (w3 (s 8 233073) (n0 151873) (s 8 237973)) 1404873) (aE (n1 157473) (gD (l 12 328273) (n800 333173) 916273) 1249473)) 5127473 4332273 9663473) (A (a (a (c 47 591474) 56 1095474) 57 1683474) (X.lam 0) 3531474) (X.def_ 206 1) (X.def_ 207 2) (gf (w2 (a (c 47 591482) 64 1431482) (a (c 47 604782) 73 1108782)) (w2 (l 206 448682) (l 207 621582)) 2691482 1371982 4287482) (v6 (gt (w3 (l 209 507483) (l 119 513083) (l 210 602683)) (w3 (f (g 208 862383) (w1 (l 17 618083)) 1618383) (f (g 120 793083) (w1 (a (l 17 632083) 119 1220083)) 2137083) (a (l 17 643983) 21 979983)) 1935483 5145683 7311483) (A (l 185 339484) (f (g 211 764384) (w2 (l 17 603384) (l 35 609684)) 2276384) 2859484) (A (l 212 507485) (an (w3 (c 198 681785) (l 193 690885) (aX (f (g 28 280685) (w1 (l 35 619485)) 1036685) (l 192 375885) 1708685)) 4041785) 4791485) (A (l 213 843486) (an (w2 (l 212 516586) (f (g 214 776286) (w3 (l 187 363286) (l 185 367486) (c 56 455686)) 2372286)) 3288586) 4371486) (A (l 23 423487) (f (g 46 261087) (w3 (aE (eE 347887) (f (g 28 268787) (w1 (l 41 355587)) 772787) 1355887) (l 12 276487) (n1552 363987)) 2697087) 3363487) (fr (tu (w2 (l 43 594288) (l 44 516588)) 1266288) (sb (l 185 355588) (s 69 695088) 1195588) (w1 (I (nt (X.cmp2 (l 23 431189) .le (l 43 605489) .lt (sb (a (l 17 612489) 15 1452489) (n2 121089) 1704489) (P 3287189)) 3620389) (w1 (A (ss (l 119 513090) (bP (l 43 601990) (eE 356990) 1189990) (bP (l 43 612490) (n1020 367490) 1200490) Z 2449990 3117090) (l 44 541090) 3873090)) Z 14958289)) 26043488) (w4 (A (l 215 759491) (f (g 216 851891) (w3 (c 47 607591) (l 30 697891) (l 35 620891)) 3203891) 4203491) (I (pZ (w2 (ki (l 215 761592) (ix (l 213 878492) (tu (w2 (X.lit .tru (P 352092)) (sb (sb (l 185 356292) (s 68 947792) 1448292) (n10 200892) 1784292)) 2451392) (tu (w2 (X.lit .fls (P 470392)) (n0 139292)) 889692) 4971392) 6221592) (ki (f (g 208 900192) (w1 (l 17 655892)) 1656192) (l 209 580292) 2496192)) 8993592) (w1 (r (X.lit .fls (P 431193)) 1014293)) Z 12099492) (I (pZ (w3 (kg (a (l 17 593594) 21 929594) (l 210 606894) 2189594) (ki (a (l 48 530594) 150 1286594) (dc Z 207894) 1790594) (ki (a (c 47 632094) 68 1136094) (aE (n1 139994) (gD (l 12 310794) (n800 315694) 898794) 1231994) 2648094)) 7229594) (w1 (r (X.lit .fls (P 431195)) 1014295)) Z 12099494) (r (an (w2 (aX (a (l 17 596396) 119 1184396) (l 119 524996) 2024396) (aX (f (g 16 364696) (w1 (a (l 17 620196) 121 1208196)) 1708696) (sb (l 185 381496) (s 50 468996) 969496) 2968696)) 5384396) 5967496)))))
def c0:X:=w1 (r (f (g 16 361174) (w1 (c 56 448674)) 949174) 949174)
def c1:X:=w1 (I (nt (c 198 683177) 1016377) (w1 (X.s1 .raise (f (g 36 1021278) (w1 (s 75 526378)) 1693278) (P 2193078))) Z 13278277)
def c2:X:=w1 (A (a (c 47 594281) 68 1098281) (n0 101481) 1434281)
end
end Zx
section
local macro_rules | `($n:num) => `(nat_lit $n)
noncomputable def Tf:List (Nat×Fn):=[
 (35,⟨[8,9],x35⟩),(55,⟨[8,9,11],x55⟩),(91,⟨[13],x91⟩),(105,⟨[8,17],x105⟩),(112,⟨[8,17,23],x112⟩),(124,⟨[30,35],x124⟩),(131,⟨[39],x131⟩),(138,⟨[47,12,35],x138⟩),(145,⟨[47,12,35],x145⟩),(152,⟨[47,30,35],x152⟩),(166,⟨[8,34],x166⟩),(173,⟨[8,78,79,14],x173⟩),(180,⟨[8,33],x180⟩),(187,⟨[8,78],x187⟩),(194,⟨[8,78],x194⟩),(216,⟨[8,40,13,41,45,81,82,83,42],x216⟩),(223,⟨[8,78],x223⟩),(230,⟨[8],x230⟩),(237,⟨[8,43],x237⟩),(244,⟨[8,217,218],x244⟩),(264,⟨[14,86],x264⟩),(271,⟨[9],x271⟩),(278,⟨[9],x278⟩),(285,⟨[89,90,91,92],x285⟩),(292,⟨[9,12,87],x292⟩),(299,⟨[9,12,87],x299⟩),(306,⟨[9],x306⟩),(313,⟨[14],x313⟩),(320,⟨[89,90,91],x320⟩),(327,⟨[89,90,91],x327⟩),(334,⟨[89,90,91],x334⟩),(341,⟨[89,90,91],x341⟩),(348,⟨[89,90,91],x348⟩),(355,⟨[89],x355⟩),(369,⟨[8,40,118],x369⟩),(376,⟨[8,43,118],x376⟩),(383,⟨[8,43,44],x383⟩),(390,⟨[8,43,118],x390⟩),(397,⟨[8,43,44],x397⟩),(404,⟨[8,26,14],x404⟩),(411,⟨[8],x411⟩),(418,⟨[8,43],x418⟩),(425,⟨[8,13],x425⟩),(432,⟨[8],x432⟩),(439,⟨[8,43],x439⟩),(446,⟨[8,40,76,130],x446⟩),(453,⟨[8,89,90,91,92],x453⟩),(460,⟨[8,89,90,91,92],x460⟩),(467,⟨[8],x467⟩),(474,⟨[8],x474⟩),(481,⟨[8,89,90,91,92],x481⟩),(503,⟨[8,63,18,9],x503⟩),(524,⟨[8,39],x524⟩),(531,⟨[8],x531⟩),(538,⟨[8],x538⟩),(546,⟨[8],x546⟩),(554,⟨[8],x554⟩),(562,⟨[8,155],x562⟩),(569,⟨[8],x569⟩),(576,⟨[8,43,118],x576⟩),(583,⟨[8,43,118],x583⟩),(590,⟨[8,43,44],x590⟩),(597,⟨[8,163,26],x597⟩),(604,⟨[8,43],x604⟩),(611,⟨[8],x611⟩),(618,⟨[8],x618⟩),(625,⟨[8,136],x625⟩),(632,⟨[8,168],x632⟩),(639,⟨[8,173],x639⟩),(654,⟨[176,118],x654⟩),(661,⟨[22],x661⟩),(668,⟨[176,90],x668⟩),(675,⟨[176],x675⟩),(682,⟨[89,111,112],x682⟩),(689,⟨[185,22],x689⟩),(696,⟨[187,185,56],x696⟩),(703,⟨[176,193,118],x703⟩),(708,⟨[176,17],x708⟩),(715,⟨[17],x715⟩),(722,⟨[47,30,35],x722⟩),(729,⟨[17,35],x729⟩)]
noncomputable def Tc:List (Nat×Fn):=[
 (0,⟨[],c0⟩),(1,⟨[],c1⟩),(2,⟨[],c2⟩)]
noncomputable def Tx:List (Nat×List Nat):=[(0,[108,111,119,95,112,99]),(1,[109]),(2,[102,111,114,109,97,108,95,112,97,114,97,109,101,116,101,114]),(3,[84,111,111,32,102,101,119,32,97,114,103,117,109,101,110,116,115,32,105,110,32,102,117,110,99,116,105,111,110,32,99,97,108,108,46]),(4,[84,111,111,32,109,97,110,121,32,97,114,103,117,109,101,110,116,115,32,105,110,32,102,117,110,99,116,105,111,110,32,99,97,108,108,46]),(5,[98,114,101,97,107]),(6,[115,116,111,112,112,101,100,32,105,110,32,116,104,101,32,99,97,108,108,101,100,32,102,117,110,99,116,105,111,110]),(7,[116,104,101,32,102,117,110,99,116,105,111,110,32,104,97,115,32,110,111,32,99,111,100,101]),(8,[]),(9,[115,117,98]),(10,[115,114,97]),(11,[115,114,97,105]),(12,[106,97,108]),(13,[106,97,108,114]),(14,[108,117,105]),(15,[97,117,105,112,99]),(16,[101,99,97,108,108]),(17,[101,98,114,101,97,107]),(18,[115,108,108]),(19,[115,114,108]),(20,[100,105,118]),(21,[100,105,118,117]),(22,[114,101,109,117]),(23,[109,117,108,104,117]),(24,[109,117,108,104]),(25,[97,100,100]),(26,[97,110,100]),(27,[111,114]),(28,[120,111,114]),(29,[115,108,116]),(30,[115,108,116,117]),(31,[109,117,108]),(32,[98,101,113]),(33,[98,110,101]),(34,[98,108,116]),(35,[98,103,101]),(36,[98,108,116,117]),(37,[98]),(38,[104]),(39,[119]),(40,[109,101,109,111,114,121]),(41,[114]),(42,[97,108,105,103,110]),(43,[108,105,116,116,108,101]),(44,[105,108,108,101,103,97,108]),(45,[112,99]),(46,[115]),(47,[117]),(48,[115,116,97,116,117,115]),(49,[101,120,105,116]),(50,[111,117,116]),(51,[98,103,101,117]),(52,[108,98]),(53,[108,104]),(54,[108,119]),(55,[108,98,117]),(56,[108,104,117]),(57,[115,98]),(58,[115,104]),(59,[115,119]),(60,[115,108,116,105,117]),(61,[105]),(62,[110,111,32,109,101,109,111,114,121]),(63,[116,114,97,112]),(64,[115,116,101,112,115]),(65,[97,100,100,105]),(66,[98,97,100]),(67,[114,101,116]),(68,[114,101,103,105,115,116,101,114,115]),(69,[115,116,111,114,101,115]),(70,[115,117,98,112,114,111,103,114,97,109]),(71,[97,100,100,114]),(72,[104,105,103,104,95,112,99]),(73,[100,97,116,97,52]),(74,[118,97,114,105,97,98,108,101]),(75,[100,101,97,100])]
noncomputable def Tk:List (Nat×Cls):=[
 (38,⟨true,[38],35,[(5,35)],[9]⟩),(58,⟨true,[58,38],55,[(5,55)],[11,9]⟩),(70,⟨true,[70,38],35,[(5,35)],[9]⟩),(82,⟨true,[82,38],35,[(5,35)],[9]⟩),(115,⟨false,[115],105,[(5,105),(71,112)],[15,18,19,20,21]⟩),(197,⟨false,[197],166,[(5,166),(194,173),(135,180),(14,187),(79,194)],[34,74,31,75,76]⟩),(247,⟨false,[247],216,[(5,216),(219,223),(85,230),(193,237),(220,244)],[40,13,41,45,81,82,83,42]⟩),(484,⟨false,[484],369,[(5,369),(124,376),(25,383),(128,390),(134,397),(135,404),(144,411),(137,418),(126,425),(133,432),(138,439),(132,446),(73,453),(146,460),(145,467),(164,474),(148,481)],[40,118,119,15,18,121,20,19,21,122]⟩),(506,⟨false,[506],503,[(5,503)],[63,18,9,48,39,56,68,57,64,73]⟩),(642,⟨false,[642],524,[(5,524),(151,531),(55,562),(61,569),(157,576),(128,583),(134,590),(135,597),(221,604),(169,611),(164,618),(167,625),(174,632),(59,639)],[39,150,9,17]⟩)]
end
noncomputable def T:Tabs where
 glob:=[(143,.int (10)),(51,.int (10)),(140,.int (17)),(170,.tup [.int (3),.int (35)]),(102,.tup [.str [98,101,113],.str [98,110,101],.str [],.str [],.str [98,108,116],.str [98,103,101],.str [98,108,116,117],.str [98,103,101,117]]),(36,.top 70),(10,.top 38),(106,.int (1048691)),(158,.bytes [115,0,16,0]),(105,.int (115)),(141,.int (93)),(190,.top 197),(171,.top 506),(7,.ty 6),(50,.int (64)),(67,.top 115),(100,.tup [.str [108,98],.str [108,104],.str [108,119],.str [],.str [108,98,117],.str [108,104,117],.str [],.str []]),(108,.int (4294967295)),(52,.int (4294967295)),(37,.int (8)),(60,.int (50000)),(152,.top 484),(77,.int (-1)),(96,.tup [.str [97,100,100,105],.str [115,108,108,105],.str [115,108,116,105],.str [115,108,116,105,117],.str [120,111,114,105],.str [115,114,108,105],.str [111,114,105],.str [97,110,100,105]]),(160,.top 82),(93,.tup [.str [97,100,100],.str [115,108,108],.str [115,108,116],.str [115,108,116,117],.str [120,111,114],.str [115,114,108],.str [111,114],.str [97,110,100]]),(94,.tup [.str [109,117,108],.str [109,117,108,104],.str [109,117,108,104,115,117],.str [109,117,108,104,117],.str [100,105,118],.str [100,105,118,117],.str [114,101,109],.str [114,101,109,117]]),(142,.int (1)),(203,.top 247),(53,.int (1)),(107,.int (2147483648)),(154,.int (2)),(24,.int (2)),(101,.tup [.str [115,98],.str [115,104],.str [115,119],.str [],.str [],.str [],.str [],.str []]),(204,.top 642),(123,.top 58),(156,.int (4)),(188,.top 689),(184,.int (4294967296)),(180,.top 654),(202,.top 703),(216,.top 722),(182,.tup [.int (0),.int (5),.int (6),.int (7),.int (8),.int (9),.int (10),.int (11),.int (12),.int (17),.int (18),.int (31)]),(205,.top 708),(183,.top 668),(189,.top 682),(211,.top 729),(200,.top 675),(208,.top 715),(214,.top 696),(201,.top 661),(84,.top 21),(114,.bi 9),(103,.top 271),(120,.ty 2),(125,.ty 3),(195,.top 152),(66,.top 124),(129,.top 306),(6,.ty 4),(65,.top 91),(147,.top 348),(127,.ty 5),(104,.top 278),(54,.top 138),(28,.bi 0),(16,.ty 1),(46,.bi 1),(161,.bi 2),(98,.top 299),(72,.top 131),(117,.top 327),(70,.top 145),(27,.ty 0),(99,.top 292),(115,.top 320),(88,.top 264),(159,.bi 3),(95,.top 285),(116,.top 334),(131,.top 355),(110,.top 313),(149,.top 341)]
 fns:=Tf
 clos:=Tc
 txt:=Tx
 cls:=Tk
end
noncomputable def argsS:Stmt->Arguments|.FunctionDef _ a _ _ _ _ _ _ _ _=>a|_=>⟨[],[],none,[],[],none,[]⟩
noncomputable def mx:Stmt->Scope|.FunctionDef _ _ _ _ _ _ s _ _ _=>s|_=>default
noncomputable abbrev s_(x:String)(t:Nat):Value:=.str (Str.ofString x) t
noncomputable abbrev e_(P:Params)(x:String)(t:Nat)(v:Value):DictEntry:=⟨PyData.keyHash P (Str.ofString x),.str (Str.ofString x) t,v⟩
noncomputable abbrev i_(n:Int):Value:=.int n 0
noncomputable abbrev r_(a:Nat):Value:=.ref a
noncomputable abbrev tu(l:List Value):Obj:={cls:=.type "tuple",data:=.seq l.toArray 0}
noncomputable abbrev rn(l:List Value):Obj:={cls:=.none,data:=.fields l.toArray}
noncomputable abbrev rc(c:String)(l:List Value):Obj:={cls:=.type c,data:=.fields l.toArray}
noncomputable def cf(n q:String)(t l a r k:Nat):Obj:=rc "code" [s_ n t,s_ q (t+1),s_ "/claim/cut.py" (t+2),i_ l,i_ a,i_ 0,i_ 0,i_ 3,r_ r,.bool true,i_ 181,r_ (r+1),.none,r_ (r+2),r_ (r+3),r_ (r+4),i_ (t+k:Nat),i_ l,s_ "/claim/cut.py" (t+k+1)]
noncomputable def cc(n q:String)(t l r:Nat):Obj:=rc "code" [s_ n t,s_ q (t+1),s_ "/claim/cut.py" (t+2),i_ l,i_ 0,i_ 0,i_ 0,i_ 0,r_ r,.bool false,i_ 181,r_ (r+1),.none,.none,.none,.none,i_ (t+3:Nat),i_ l,s_ "/claim/cut.py" (t+4)]
noncomputable def tS_:Nat->List String->List Value
 | _,[]=>[]
 | t,x::r=>s_ x t::tS_ (t+1) r
noncomputable def tS(t:Nat)(l:List String):Obj:=tu (tS_ t l)
noncomputable abbrev di(l:List DictEntry)(n:Nat):Obj:={cls:=.type "dict",data:=.dict l.toArray n}
noncomputable abbrev fn_(st:Stmt)(nm q:String)(g:Nat)(d m c:Value):FuncData :=
 {name:=Str.ofString nm,qualname:=Str.ofString q,params:=argsS st,body:=.stmts (bodyS st),scope:=mx st,globals:=g,closure:=[],defaults:=d,kwdefaults:=.none,doc:=.none,pyModule:=m,annotations:=none,code:=c,closureTuple:=.none,builtins:=0}
noncomputable abbrev fo(st:Stmt)(nm q:String)(d m:Value)(c:Nat):Obj:={cls:=.type "function",data:=.func (fn_ st nm q 3 d m (.ref c))}
noncomputable abbrev fs(st:Stmt)(nm q:String):Obj:={cls:=.none,data:=.func (fn_ st nm q 0 .none .none .none)}
noncomputable abbrev kl(nm:String)(bs mro:List Value)(ns:Nat)(q:String)(sub:List Value)(sl:List (Option Value)):Obj :=
 {cls:=.type "type",data:=.cls {name:=Str.ofString nm,bases:=bs,mro:=mro,ns:=ns,qualname:=Str.ofString q,subclasses:=sub},slots:=sl.toArray}
noncomputable def kq{α:Type}(v:α):Nat->List α->List α
 | _,[]=>[]
 | 0,_::r=>v::r
 | n+1,x::r=>x::kq v n r
noncomputable def ky{α:Type}:Nat->List α->List α
 | 0,_=>[]
 | _,[]=>[]
 | n+1,x::r=>x::ky n r
noncomputable def alt{α:Type}:List α->List α×List α
 | []=>([],[])
 | x::r=>match alt r with|(a,b)=>(x::b,a)
noncomputable def mkT:Nat->List Obj->BT
 | 0,_=>.nil
 | _,[]=>.nil
 | n+1,x::r=>match alt r with|(a,b)=>.node x (mkT n a) (mkT n b)
noncomputable abbrev bp:Obj:=rc "builtin_function_or_method" [.builtin "type.__prepare__",.type "type"]
noncomputable abbrev bi(a:Nat):Obj:=rc "builtin_function_or_method" [.builtin "object.__init_subclass__",r_ a]
noncomputable abbrev su(a:Nat):Obj:=rc "super" [r_ a,r_ a,r_ a]
noncomputable abbrev gw(t a:Nat):Obj:=rc "getset_descriptor" [s_ "__weakref__" t,r_ a,.builtin "ExceptionGroup.__weakref__",.none]
noncomputable abbrev gd(t a:Nat):Obj:=rc "getset_descriptor" [s_ "__dict__" t,r_ a,.builtin "function.__dict__",.builtin "function.__dict__#set"]
noncomputable abbrev fm(a b:Nat)(m:Value):Obj:={cls:=.type "frame",data:=.plain,slots:=#[some (r_ a),some (r_ 3),some (r_ b),.none,some m,.none,some (r_ 0)]}
noncomputable abbrev kO(n:String)(a b t u:Nat):Obj:=kl n [.type "object"] [r_ a,.type "object"] b n [] [.none,.none,some (s_ n t),some (s_ n u),some (.builtin "object.__new__"),some (.bool true)]
noncomputable abbrev kE(n:String)(a b c t u:Nat):Obj:=kl n [r_ 38] [r_ a,r_ 38,.type "Exception",.type "BaseException",.type "object"] b n [] [some (r_ c),.none,some (s_ n t),some (s_ n u),some (.builtin "Exception.__new__"),some (.bool true)]
noncomputable abbrev az(P:Params)(x:String)(t a:Nat):DictEntry:=e_ P x t (r_ a)
noncomputable abbrev cC(n:String):=cc n n
noncomputable def rl_:List (Nat×Nat)->List Value|[]=>[]|(a,b)::r=>i_ a::i_ 4::r_ b::rl_ r
noncomputable abbrev rl(l:List (Nat×Nat)):Obj:=rn (rl_ l)
noncomputable def FH(s:Stmt)(n q:String)(m:Value)(t l a:Nat)(ns:List String)(r:Nat)(b:List Value)(d:Value):List Obj×Obj :=
 (λo=>([tu [],rn [],tS (t+3) ns,tu b,fs s n q,cf n q t l a r (ns.length+3),o],o)) (fo s n q d m (r+5))
noncomputable abbrev FG(s:Stmt)(n q:String)(m:Value)(t l a:Nat)(ns:List String)(r:Nat):=FH s n q m t l a ns r [] .none
noncomputable abbrev FT(s:Stmt)(n:String):=FG s n n
noncomputable def ap{α:Type}:List α->List α->List α|[],l=>l|x::r,l=>x::ap r l
noncomputable def jn{α:Type}:List (List α)->List α|[]=>[]|x::r=>ap x (jn r)
abbrev m0:Value:=s_ "__main__" 164
abbrev m1:Value:=s_ "stopmill.errors" 194
abbrev m2:Value:=s_ "stopmill.scopes" 283
abbrev m3:Value:=s_ "stopmill.handcall" 293
abbrev m4:Value:=s_ "stopmill.entries" 409
abbrev m5:Value:=s_ "stopmill.program" 483
abbrev m6:Value:=s_ "stopmill.rv32" 561
abbrev m7:Value:=s_ "stopmill.cpu" 690
abbrev m8:Value:=s_ "stopmill.target" 970
abbrev m9:Value:=s_ "law_og0218_01" 1194
def f35:=FG (sub_ st2 0) "__init__" "DebugFault.__init__" m1 208 7 2 ["self","word"] 29
def o37(P:Params):Obj:=di [e_ P "__module__" 203 m1,e_ P "__firstlineno__" 207 (.int 5 206),az P "__init__" 215 35,az P "__static_attributes__" 217 36,az P "__weakref__" 219 39,e_ P "__doc__" 220 .none] 3
def f55:=FG (sub_ st3 0) "__init__" "Trap.__init__" m1 237 12 3 ["self","word","at"] 49
def o57(P:Params):Obj:=di [e_ P "__module__" 232 m1,e_ P "__firstlineno__" 236 (.int 10 235),az P "__init__" 245 55,az P "__static_attributes__" 247 56,e_ P "__doc__" 248 .none] 2
def o58:Obj:=kE "Trap" 58 57 42 225 233
def o69(P:Params):Obj:=di [e_ P "__module__" 258 m1,e_ P "__firstlineno__" 262 (.int 15 261),az P "__static_attributes__" 263 68,e_ P "__doc__" 264 .none] 2
def o70:Obj:=kE "CommandFault" 70 69 61 251 259
def o81(P:Params):Obj:=di [e_ P "__module__" 274 m1,e_ P "__firstlineno__" 278 (.int 17 277),az P "__static_attributes__" 279 80,e_ P "__doc__" 280 .none] 2
def o82:Obj:=kE "NotTold" 82 81 73 267 275
def f105:=FG (sub_ st16 0) "__init__" "Kept.__init__" m3 321 33 2 ["self","machine"] 99
def f112:=FG (sub_ st16 1) "bring_back" "Kept.bring_back" m3 329 40 3 ["self","machine","floor","row","number"] 106
def o114(P:Params):Obj:=di [e_ P "__module__" 316 m3,e_ P "__firstlineno__" 320 (.int 31 319),az P "__init__" 328 105,az P "bring_back" 339 112,az P "__static_attributes__" 345 113,az P "__dict__" 347 116,az P "__weakref__" 349 117,e_ P "__doc__" 350 .none] 4
def o115:Obj:=kO "Kept" 115 114 309 317
def f166:=FG (sub_ mu 0) "__init__" "Entry.__init__" m4 426 101 2 ["self","tag"] 160
def f173:=FG (sub_ mu 1) "add" "Entry.add" m4 434 108 4 ["self","name","form","value"] 167
def f180:=FG (sub_ mu 2) "put" "Entry.put" m4 444 111 2 ["self","child"] 174
def f187:=FG (sub_ mu 3) "value" "Entry.value" m4 452 116 2 ["self","name","attr"] 181
def f194:=FG (sub_ mu 4) "form" "Entry.form" m4 461 122 2 ["self","name","attr"] 188
def o196(P:Params):Obj:=di [e_ P "__module__" 421 m4,e_ P "__firstlineno__" 425 (.int 99 424),az P "__init__" 433 166,az P "add" 443 173,az P "put" 451 180,az P "value" 460 187,az P "form" 469 194,az P "__static_attributes__" 475 195,az P "__dict__" 477 198,az P "__weakref__" 479 199,e_ P "__doc__" 480 .none] 4
def o197:Obj:=kO "Entry" 197 196 414 422
def f216:=FH (sub_ mn 0) "__init__" "Program.__init__" m5 498 130 9 ["self","base","entry","text","data","memory_size","sections","sources","stack_low"] 210 [] (r_ 209)
def f223:=FG (sub_ mn 1) "section" "Program.section" m5 513 140 2 ["self","name"] 217
def f230:=FG (sub_ mn 2) "text_end" "Program.text_end" m5 521 143 1 ["self"] 224
def f237:=FG (sub_ mn 3) "has_code" "Program.has_code" m5 528 146 2 ["self","address"] 231
def f244:=FG (sub_ mn 4) "source_row" "Program.source_row" m5 536 149 3 ["self","file","line"] 238
def o246(P:Params):Obj:=di [e_ P "__module__" 492 m5,e_ P "__firstlineno__" 496 (.int 128 495),az P "__init__" 512 216,az P "section" 520 223,az P "text_end" 527 230,az P "has_code" 535 237,az P "source_row" 544 244,az P "__static_attributes__" 553 245,az P "__dict__" 555 248,az P "__weakref__" 557 249,e_ P "__doc__" 558 .none] 4
def o247:Obj:=kO "Program" 247 246 485 493
def f369:=FG (sub_ cY 0) "__init__" "Machine.__init__" m7 783 272 3 ["self","base","size"] 363
def f376:=FG (sub_ cY 1) "place" "Machine.place" m7 792 284 3 ["self","address","size","at"] 370
def f383:=FG (sub_ cY 2) "load" "Machine.load" m7 802 290 3 ["self","address","octets","at"] 377
def f390:=FG (sub_ cY 3) "read" "Machine.read" m7 812 294 3 ["self","address","size","at"] 384
def f397:=FG (sub_ cY 4) "write" "Machine.write" m7 822 298 3 ["self","address","octets","at"] 391
def f404:=FG (sub_ cY 5) "put" "Machine.put" m7 832 303 3 ["self","number","value"] 398
def f411:=FG (sub_ cY 6) "fetched" "Machine.fetched" m7 841 308 1 ["self","word","found"] 405
def f418:=FG (sub_ cY 7) "goal" "Machine.goal" m7 850 319 2 ["self","address"] 412
def f425:=FG (sub_ cY 8) "note" "Machine.note" m7 858 324 2 ["self","entry"] 419
def f432:=FG (sub_ cY 9) "begin" "Machine.begin" m7 866 328 1 ["self"] 426
def f439:=FG (sub_ cY 10) "go" "Machine.go" m7 873 331 2 ["self","address"] 433
def f446:=FG (sub_ cY 11) "access" "Machine.access" m7 881 334 4 ["self","base","offset","width","address"] 440
def f453:=FG (sub_ cY 12) "moved" "Machine.moved" m7 892 341 5 ["self","op","a","b","c","width","address","low","value"] 447
def f460:=FG (sub_ cY 13) "jumped" "Machine.jumped" m7 907 354 5 ["self","op","a","b","c","here","address","goal"] 454
def f467:=FG (sub_ cY 14) "asked" "Machine.asked" m7 921 362 1 ["self","wish"] 461
def f474:=FG (sub_ cY 15) "step" "Machine.step" m7 929 377 1 ["self","op","a","b","c","goal"] 468
def f481:=FG (sub_ cY 16) "plain" "Machine.plain" m7 941 398 5 ["self","op","a","b","c"] 475
def o483(P:Params):Obj:=di [e_ P "__module__" 778 m7,e_ P "__firstlineno__" 782 (.int 270 781),az P "__init__" 791 369,az P "place" 801 376,az P "load" 811 383,az P "read" 821 390,az P "write" 831 397,az P "put" 840 404,az P "fetched" 849 411,az P "goal" 857 418,az P "note" 865 425,az P "begin" 872 432,az P "go" 880 439,az P "access" 891 446,az P "moved" 906 453,az P "jumped" 920 460,az P "asked" 928 467,az P "step" 940 474,az P "plain" 951 481,az P "__static_attributes__" 962 482,az P "__dict__" 964 485,az P "__weakref__" 966 486,e_ P "__doc__" 967 .none] 4
def o484:Obj:=kO "Machine" 484 483 771 779
def f503:=FG (sub_ st63 0) "__init__" "Event.__init__" m8 991 419 4 ["self","kind","pc","word"] 497
def o505(P:Params):Obj:=di [e_ P "__module__" 986 m8,e_ P "__firstlineno__" 990 (.int 417 989),az P "__init__" 1000 503,az P "__static_attributes__" 1004 504,az P "__dict__" 1006 507,az P "__weakref__" 1008 508,e_ P "__doc__" 1009 .none] 4
def o506:Obj:=kO "Event" 506 505 979 987
def f524:=FG (sub_ cX 0) "__init__" "Target.__init__" m8 1024 425 2 ["self","program"] 518
def f531:=FG (sub_ cX 1) "start" "Target.start" m8 1032 431 1 ["self","program","machine","address","octets","end"] 525
def f562:=FG (sub_ cX 5) "insert" "Target.insert" m8 1068 456 2 ["self","addresses","address"] 556
def f569:=FG (sub_ cX 6) "remove" "Target.remove" m8 1077 462 1 ["self","address"] 563
def f576:=FG (sub_ cX 7) "taken" "Target.taken" m8 1085 467 3 ["self","address","size"] 570
def f583:=FG (sub_ cX 8) "read" "Target.read" m8 1094 473 3 ["self","address","size","found","place","at"] 577
def f590:=FG (sub_ cX 9) "write" "Target.write" m8 1106 480 3 ["self","address","octets","laid","place","kept","at"] 584
def f597:=FG (sub_ cX 10) "put" "Target.put" m8 1119 494 3 ["self","register","number"] 591
def f604:=FG (sub_ cX 11) "set_pc" "Target.set_pc" m8 1128 497 2 ["self","address"] 598
def f611:=FG (sub_ cX 12) "done" "Target.done" m8 1136 500 1 ["self","fault"] 605
def f618:=FG (sub_ cX 13) "step" "Target.step" m8 1144 507 1 ["self","here","lifted","address","told"] 612
def f625:=FG (sub_ cX 14) "is_access" "Target.is_access" m8 1155 518 2 ["self","here"] 619
def f632:=FG (sub_ cX 15) "event_of" "Target.event_of" m8 1163 526 2 ["self","told","word"] 626
def f639:=FG (sub_ cX 16) "resume" "Target.resume" m8 1172 532 2 ["self","most","turn","found"] 633
def o641(P:Params):Obj:=di [e_ P "__module__" 1019 m8,e_ P "__firstlineno__" 1023 (.int 423 1022),az P "__init__" 1031 524,az P "start" 1043 531,az P "registers" 1051 539,az P "pc" 1059 547,az P "is_done" 1067 555,az P "insert" 1076 562,az P "remove" 1084 569,az P "taken" 1093 576,az P "read" 1105 583,az P "write" 1118 590,az P "put" 1127 597,az P "set_pc" 1135 604,az P "done" 1143 611,az P "step" 1154 618,az P "is_access" 1162 625,az P "event_of" 1171 632,az P "resume" 1181 639,az P "__static_attributes__" 1186 640,az P "__dict__" 1188 643,az P "__weakref__" 1190 644,e_ P "__doc__" 1191 .none] 4
def o642:Obj:=kO "Target" 642 641 1012 1020
def o733:Obj:=rc "code" [s_ "law" 1344,s_ "law" 1345,s_ "/claim/cut.py" 1346,i_ 659,i_ 1,i_ 0,i_ 0,i_ 3,r_ 730,.bool true,i_ 181,r_ 731,.none,.none,.none,r_ 732,i_ 1347,i_ 659,s_ "/claim/cut.py" 1348]
def o734:Obj:=fo fZ "law" "law" .none m9 733
def g3(P:Params):List DictEntry:=[e_ P "__doc__" 166 .none,e_ P "__package__" 167 .none,e_ P "__loader__" 168 (.builtin "__main__.__loader__#opaque"),e_ P "__spec__" 169 .none,az P "__annotations__" 170 6,az P "__builtins__" 171 4,e_ P "__file__" 173 (s_ "/claim/cut.py" 172),e_ P "__cached__" 174 .none,az P "_wall" 193 21,az P "DebugFault" 224 38,az P "Trap" 250 58,az P "CommandFault" 266 70,az P "NotTold" 282 82,az P "function_low" 292 91,e_ P "MASK_handcall" 296 (.int 4294967295 295),e_ P "RA" 298 (.int 1 297),e_ P "SP_handcall" 300 (.int 2 299),e_ P "A0_handcall" 302 (.int 10 301),e_ P "MOST_NUMBERS" 304 (.int 8 303),e_ P "GAP" 306 (.int 64 305),e_ P "MOST_STEPS" 308 (.int 50000 307),az P "Kept" 352 115,az P "check_numbers" 358 124,az P "objects_end" 368 131,az P "lead_in" 381 138,az P "ran" 395 145,az P "called" 408 152,e_ P "NOWHERE" 413 (.int (-1) 412),az P "Entry" 482 197,az P "Program" 560 247,az P "PLAIN" 571 252,az P "PRODUCTS" 580 253,az P "NUMBERS" 589 254,az P "LOADS" 598 255,az P "STORES" 607 256,az P "BRANCHES" 616 257,e_ P "ECALL" 618 (.int 115 617),e_ P "EBREAK_rv32" 620 (.int 1048691 619),az P "signed" 629 264,az P "branch_distance" 637 271,az P "jump_distance" 645 278,az P "told_word" 655 285,az P "register_row" 665 292,az P "number_row" 676 299,az P "decode" 689 306,e_ P "MASK_cpu" 693 (.int 4294967295 692),e_ P "SIGN" 695 (.int 2147483648 694),e_ P "SP_cpu" 697 (.int 2 696),e_ P "A0_cpu" 699 (.int 10 698),e_ P "A7" 701 (.int 17 700),e_ P "EXIT" 703 (.int 93 702),e_ P "PUT" 705 (.int 1 704),az P "with_sign" 712 313,az P "shifted" 722 320,az P "quotient" 734 327,az P "upper_product" 745 334,az P "worked" 754 341,az P "holds" 763 348,az P "width_of" 770 355,az P "Machine" 969 484,e_ P "EBREAK_target" 973 (.bytes #[115,0,16,0] 972),e_ P "WORD" 975 (.int 4 974),az P "ACCESSES" 978 489,az P "Event" 1011 506,az P "Target" 1193 642,az P "_law_homes" 1208 647,e_ P "_law_all" 1210 (.int 4294967296 1209),az P "_law_draw" 1222 654,az P "_law_word" 1234 661,az P "_law_odd_rows" 1243 668,az P "_law_rows" 1256 675,az P "_law_reckoned" 1265 682,az P "_law_access" 1280 689,az P "_law_walk" 1297 696,az P "_law_function" 1309 703,az P "_law_laid" 1315 708,az P "_law_shown" 1323 715,az P "_law_heard" 1332 722,az P "_law_room" 1343 729,az P "law" 1349 734]
def o3(P:Params)(nm:Value)(n k:Nat):Obj:=di (⟨PyData.keyHash P "__name__",.str "__name__" 165,nm⟩::ky n (g3 P)) k
def g12:List Value:=[i_ 1,i_ 0,r_ 20,i_ 5,i_ 0,r_ 27,i_ 10,i_ 0,r_ 47,i_ 15,i_ 0,r_ 66,i_ 17,i_ 0,r_ 78,i_ 20,i_ 0,r_ 90,i_ 31,i_ 0,r_ 97,i_ 50,i_ 0,r_ 123,i_ 56,i_ 0,r_ 130,i_ 61,i_ 0,r_ 137,i_ 70,i_ 0,r_ 144,i_ 83,i_ 0,r_ 151,i_ 99,i_ 0,r_ 158,i_ 128,i_ 0,r_ 207,i_ 160,i_ 0,r_ 263,i_ 163,i_ 0,r_ 270,i_ 166,i_ 0,r_ 277,i_ 169,i_ 0,r_ 284,i_ 171,i_ 0,r_ 291,i_ 180,i_ 0,r_ 298,i_ 189,i_ 0,r_ 305,i_ 219,i_ 0,r_ 312,i_ 221,i_ 0,r_ 319,i_ 226,i_ 0,r_ 326,i_ 238,i_ 0,r_ 333,i_ 242,i_ 0,r_ 340,i_ 262,i_ 0,r_ 347,i_ 268,i_ 0,r_ 354,i_ 270,i_ 0,r_ 361,i_ 417,i_ 0,r_ 495,i_ 423,i_ 0,r_ 516,i_ 545,i_ 0,r_ 653,i_ 551,i_ 0,r_ 660,i_ 563,i_ 0,r_ 667,i_ 570,i_ 0,r_ 674,i_ 589,i_ 0,r_ 681,i_ 595,i_ 0,r_ 688,i_ 608,i_ 0,r_ 695,i_ 627,i_ 0,r_ 702,i_ 637,i_ 0,r_ 707,i_ 645,i_ 0,r_ 714,i_ 648,i_ 0,r_ 721,i_ 653,i_ 0,r_ 728,i_ 659,i_ 0,r_ 733]
def o12(n:Nat):Obj:=rn (ky n g12)
def o38(l:List Value):Obj:=kl "DebugFault" [.type "Exception"] [r_ 38,.type "Exception",.type "BaseException",.type "object"] 37 "DebugFault" l [some (r_ 22),.none,some (s_ "DebugFault" 196),some (s_ "DebugFault" 204),some (.builtin "Exception.__new__"),some (.bool true)]
def allP(P:Params):List Obj:=jn [[boot_o_0 P,boot_o_1 P,default,default,boot_o_4 P,boot_o_5 P,boot_o_6 P,boot_o_7 P,boot_o_8 P,boot_o_9 P,boot_o_10 P],[tu [],default,cc "<module>" "<module>" 182 1 11,fm 13 3 m0],(FT st0 "_wall" m0 187 1 1 ["k"] 15).1,[tu [.type "Exception"],bp,di [e_ P "__module__" 203 m1,e_ P "__qualname__" 205 (s_ "DebugFault" 204),e_ P "__firstlineno__" 207 (.int 5 206),az P "__init__" 215 35,az P "__static_attributes__" 217 36] 5,tu [],rl [(7,34)],cC "DebugFault" 198 5 25,fm 27 24 m1],f35.1,[tu [s_ "word" 216],o37 P,default,gw 218 38,su 38,bi 38,tu [r_ 38],bp,di [e_ P "__module__" 232 m1,e_ P "__qualname__" 234 (s_ "Trap" 233),e_ P "__firstlineno__" 236 (.int 10 235),az P "__init__" 245 55,az P "__static_attributes__" 247 56] 5,tu [],rl [(12,54)],cC "Trap" 227 10 45,fm 47 44 m1],f55.1,[tu [s_ "at" 246],o57 P,o58,su 58,bi 58,tu [r_ 38],bp,di [e_ P "__module__" 258 m1,e_ P "__qualname__" 260 (s_ "CommandFault" 259),e_ P "__firstlineno__" 262 (.int 15 261),az P "__static_attributes__" 263 68] 4,tu [],rn [],cC "CommandFault" 253 15 64,fm 66 63 m1,tu [],o69 P,o70,su 70,bi 70,tu [r_ 38],bp,di [e_ P "__module__" 274 m1,e_ P "__qualname__" 276 (s_ "NotTold" 275),e_ P "__firstlineno__" 278 (.int 17 277),az P "__static_attributes__" 279 80] 4,tu [],rn [],cC "NotTold" 269 17 76,fm 78 75 m1,tu [],o81 P,o82,su 82,bi 82],(FT st7 "function_low" m2 285 20 1 ["entry","low"] 85).1,[tu [],bp,di [e_ P "__module__" 316 m3,e_ P "__qualname__" 318 (s_ "Kept" 317),e_ P "__firstlineno__" 320 (.int 31 319),az P "__init__" 328 105,az P "bring_back" 339 112,az P "__static_attributes__" 345 113] 6,tu [],rl [(33,104),(40,111)],cC "Kept" 311 31 95,fm 97 94 m3],f105.1,f112.1,[tS 340 ["is_done","log","pc","registers","status"],o114 P,o115,gd 346 115,gw 348 115,su 115,bi 115,tu [],rn [],fs st17 "check_numbers" "check_numbers",rc "code" [s_ "check_numbers" 353,s_ "check_numbers" 354,s_ "/claim/cut.py" 355,i_ 50,i_ 2,i_ 0,i_ 0,i_ 3,r_ 120,.bool true,i_ 181,r_ 121,.none,.none,.none,r_ 122,i_ 356,i_ 50,s_ "/claim/cut.py" 357],fo st17 "check_numbers" "check_numbers" .none m3 123],(FT st18 "objects_end" m3 359 56 1 ["program","ends","address","octets"] 125).1,(FT st19 "lead_in" m3 369 61 3 ["session","low","numbers","machine","stack","at","number"] 132).1,(FT st20 "ran" m3 382 70 3 ["session","low","numbers","target","stack","entry","event","is_back"] 139).1,(FT st21 "called" m3 396 83 3 ["session","function","numbers","low","machine","kept","level"] 146).1,[tu [],bp,di [e_ P "__module__" 421 m4,e_ P "__qualname__" 423 (s_ "Entry" 422),e_ P "__firstlineno__" 425 (.int 99 424),az P "__init__" 433 166,az P "add" 443 173,az P "put" 451 180,az P "value" 460 187,az P "form" 469 194,az P "__static_attributes__" 475 195] 9,tu [],rl [(101,165),(108,172),(111,179),(116,186),(122,193)],cC "Entry" 416 99 156,fm 158 155 m4],f166.1,f173.1,f180.1,f187.1,f194.1,[tS 470 ["attrs","children","offset","parent","tag"],o196 P,o197,gd 476 197,gw 478 197,su 197,bi 197,tu [],bp,di [e_ P "__module__" 492 m5,e_ P "__qualname__" 494 (s_ "Program" 493),e_ P "__firstlineno__" 496 (.int 128 495),az P "__init__" 512 216,az P "section" 520 223,az P "text_end" 527 230,az P "has_code" 535 237,az P "source_row" 544 244,az P "__static_attributes__" 553 245] 9,tu [],rl [(130,215),(140,222),(143,229),(146,236),(149,243)],cC "Program" 487 128 205,fm 207 204 m5,tu [.int 0 497]],f216.1,f223.1,f230.1,f237.1,f244.1,[tS 545 ["base","data","entry","memory_size","sections","sources","stack_low","text"],o246 P,o247,gd 554 247,gw 556 247,su 247,bi 247,tS 563 ["add","sll","slt","sltu","xor","srl","or","and"],tS 572 ["mul","mulh","mulhsu","mulhu","div","divu","rem","remu"],tS 581 ["addi","slli","slti","sltiu","xori","srli","ori","andi"],tS 590 ["lb","lh","lw","","lbu","lhu","",""],tS 599 ["sb","sh","sw","","","","",""],tS 608 ["beq","bne","","","blt","bge","bltu","bgeu"]],(FT st36 "signed" m6 621 160 2 ["value","bits","low"] 258).1,(FT st37 "branch_distance" m6 630 163 1 ["word","high"] 265).1,(FT st38 "jump_distance" m6 638 166 1 ["word","high"] 272).1,(FT st39 "told_word" m6 646 169 4 ["op","a","b","c"] 279).1,(FT st40 "register_row" m6 656 171 3 ["word","low","high","op"] 286).1,(FT st41 "number_row" m6 666 180 3 ["word","low","high","op","number"] 293).1,(FT st42 "decode" m6 677 189 1 ["word","code","low","high","a","b","c"] 300).1,(FT st51 "with_sign" m7 706 219 1 ["value"] 307).1,(FT st52 "shifted" m7 713 221 3 ["op","a","b","far"] 314).1,(FT st53 "quotient" m7 723 226 3 ["op","a","b","one","other","found"] 321).1,(FT st54 "upper_product" m7 735 238 3 ["op","a","b","one","other"] 328).1,(FT st55 "worked" m7 746 242 3 ["op","a","b"] 335).1,(FT st56 "holds" m7 755 262 3 ["op","a","b"] 342).1,(FT st57 "width_of" m7 764 268 1 ["op"] 349).1,[tu [],bp,di [e_ P "__module__" 778 m7,e_ P "__qualname__" 780 (s_ "Machine" 779),e_ P "__firstlineno__" 782 (.int 270 781),az P "__init__" 791 369,az P "place" 801 376,az P "load" 811 383,az P "read" 821 390,az P "write" 831 397,az P "put" 840 404,az P "fetched" 849 411,az P "goal" 857 418,az P "note" 865 425,az P "begin" 872 432,az P "go" 880 439,az P "access" 891 446,az P "moved" 906 453,az P "jumped" 920 460,az P "asked" 928 467,az P "step" 940 474,az P "plain" 951 481,az P "__static_attributes__" 962 482] 21,tu [],rl [(272,368),(284,375),(290,382),(294,389),(298,396),(303,403),(308,410),(319,417),(324,424),(328,431),(331,438),(334,445),(341,452),(354,459),(362,466),(377,473),(398,480)],cC "Machine" 773 270 359,fm 361 358 m7],f369.1,f376.1,f383.1,f390.1,f397.1,f404.1,f411.1,f418.1,f425.1,f432.1,f439.1,f446.1,f453.1,f460.1,f467.1,f474.1,f481.1,[tS 952 ["base","is_done","known","log","memory","output","pc","registers","size","status"],o483 P,o484,gd 963 484,gw 965 484,su 484,bi 484,tu [.int 3 976,.int 35 977],tu [],bp,di [e_ P "__module__" 986 m8,e_ P "__qualname__" 988 (s_ "Event" 987),e_ P "__firstlineno__" 990 (.int 417 989),az P "__init__" 1000 503,az P "__static_attributes__" 1004 504] 5,tu [],rl [(419,502)],cC "Event" 981 417 493,fm 495 492 m8],f503.1,[tS 1001 ["kind","pc","word"],o505 P,o506,gd 1005 506,gw 1007 506,su 506,bi 506,tu [],bp,di [e_ P "__module__" 1019 m8,e_ P "__qualname__" 1021 (s_ "Target" 1020),e_ P "__firstlineno__" 1023 (.int 423 1022),az P "__init__" 1031 524,az P "start" 1043 531,az P "registers" 1051 539,az P "pc" 1059 547,az P "is_done" 1067 555,az P "insert" 1076 562,az P "remove" 1084 569,az P "taken" 1093 576,az P "read" 1105 583,az P "write" 1118 590,az P "put" 1127 597,az P "set_pc" 1135 604,az P "done" 1143 611,az P "step" 1154 618,az P "is_access" 1162 625,az P "event_of" 1171 632,az P "resume" 1181 639,az P "__static_attributes__" 1186 640] 21,tu [],rl [(425,523),(431,530),(445,537),(449,545),(453,553),(456,561),(462,568),(467,575),(473,582),(480,589),(494,596),(497,603),(500,610),(507,617),(518,624),(526,631),(532,638)],cC "Target" 1014 423 514,fm 516 513 m8],f524.1,f531.1,(FG (sub_ cX 2) "registers" "Target.registers" m8 1044 444 1 ["self"] 532).1,[rc "property" [r_ 538,.none,.none,.none,s_ "registers" 1051,.bool false]],(FG (sub_ cX 3) "pc" "Target.pc" m8 1052 448 1 ["self"] 540).1,[rc "property" [r_ 546,.none,.none,.none,s_ "pc" 1059,.bool false]],(FG (sub_ cX 4) "is_done" "Target.is_done" m8 1060 452 1 ["self"] 548).1,[rc "property" [r_ 554,.none,.none,.none,s_ "is_done" 1067,.bool false]],f562.1,f569.1,f576.1,f583.1,f590.1,f597.1,f604.1,f611.1,f618.1,f625.1,f632.1,f639.1,[tS 1182 ["inserted","machine","program","word"],o641 P,o642,gd 1187 642,gw 1189 642,su 642,bi 642,tu [.int 0 1196,.int 5 1197,.int 6 1198,.int 7 1199,.int 8 1200,.int 9 1201,.int 10 1202,.int 11 1203,.int 12 1204,.int 17 1205,.int 18 1206,.int 31 1207]],(FT st68 "_law_draw" m9 1211 545 2 ["well","size","numbers","at","stirred","pick"] 648).1,(FT st69 "_law_word" m9 1223 551 1 ["row","op","a","b","c","more"] 655).1,(FT st70 "_law_odd_rows" m9 1235 563 2 ["well","a","way"] 662).1,(FT st71 "_law_rows" m9 1244 570 1 ["well","laid_rows","turn","way","a","b","c"] 669).1,(FT st72 "_law_reckoned" m9 1257 589 3 ["op","one","other"] 676).1,(FT st73 "_law_access" m9 1266 595 2 ["room","row","op","a","b","c","address","at","octets"] 683).1,(FT st74 "_law_walk" m9 1281 608 3 ["rows","room","stops","registers","first","at","row","op","a","b","c"] 690).1,(FT st75 "_law_function" m9 1298 627 3 ["well","has_code","size","made_one","many","turn"] 697).1,[tu [],rn [],fs st76 "_law_laid" "_law_laid",rc "code" [s_ "_law_laid" 1310,s_ "_law_laid" 1311,s_ "/claim/cut.py" 1312,i_ 637,i_ 2,i_ 0,i_ 0,i_ 3,r_ 704,.bool true,i_ 181,r_ 705,.none,.none,.none,r_ 706,i_ 1313,i_ 637,s_ "/claim/cut.py" 1314],fo st76 "_law_laid" "_law_laid" .none m9 707],(FT st77 "_law_shown" m9 1316 645 1 ["machine","log"] 709).1,(FT st78 "_law_heard" m9 1324 648 3 ["session","function","numbers"] 716).1,(FT st79 "_law_room" m9 1333 653 2 ["machine","numbers","registers","at","given"] 723).1,[tu [],rn [],fs fZ "law" "law",o733,o734]]
def L0(P:Params):List Obj:=kq (o12 0) 12 (kq (o3 P m0 8 9) 3 (kq ({cls:=.none,data:=.dict [].toArray 0}) 2 (ky 15 (allP P))))
noncomputable def SG(L:Params->List Obj)(n t:Nat)(w:World)(os:OsState):SharedT:=⟨mkT 12 (L w.params),n,{},#[],{},t,os⟩
def Sg0:=SG L0 15 187
noncomputable def o2_(P:Params):Obj:={cls:=.none,data:=.dict [e_ P "type.__subclasses__.Exception.0" 221 (i_ 38),e_ P "type.__subclasses__.Exception.n" 222 (i_ 1)].toArray 2}
noncomputable def LL(s:List Value)(a:Nat)(m:Value)(n k:Nat)(P:Params):List Obj:=kq (o38 s) 38 (kq (o12 a) 12 (kq (o3 P m n (n+1)) 3 (kq (o2_ P) 2 (ky k (allP P)))))
def L1:=LL [] 6 m1 10 42
def Sg1:=SG L1 42 225
def L2:=LL [r_ 58] 9 m1 11 61
def Sg2:=SG L2 61 251
def L3:=LL [r_ 58,r_ 70] 12 m1 12 73
def Sg3:=SG L3 73 267
def L4:=LL [r_ 58,r_ 70,r_ 82] 18 m3 21 92
def Sg4:=SG L4 92 309
def L5:=LL [r_ 58,r_ 70,r_ 82] 33 m3 26 146
def Sg5:=SG L5 146 396
def L6:=LL [r_ 58,r_ 70,r_ 82] 36 m4 28 153
def Sg6:=SG L6 153 414
def L7:=LL [r_ 58,r_ 70,r_ 82] 39 m5 29 202
def Sg7:=SG L7 202 485
def L8:=LL [r_ 58,r_ 70,r_ 82] 42 m6 31 253
def Sg8:=SG L8 253 572
def L9:=LL [r_ 58,r_ 70,r_ 82] 63 m7 51 307
def Sg9:=SG L9 307 704
def L10:=LL [r_ 58,r_ 70,r_ 82] 84 m7 59 356
def Sg10:=SG L10 356 771
def L11:=LL [r_ 58,r_ 70,r_ 82] 87 m7 60 489
def Sg11:=SG L11 489 970
def L12:=LL [r_ 58,r_ 70,r_ 82] 90 m8 64 511
def Sg12:=SG L12 511 1012
def L13:=LL [r_ 58,r_ 70,r_ 82] 93 m8 65 647
def Sg13:=SG L13 647 1194
def L14:=LL [r_ 58,r_ 70,r_ 82] 123 m9 77 716
def Sg14:=SG L14 716 1324
def L15:=LL [r_ 58,r_ 70,r_ 82] 132 m9 80 735
def T15(P:Params):BT:=mkT 12 (L15 P)
def Sg15:=SG L15 735 1350
section
noncomputable def env0:Env:={scope:=pwM.main.scope,locals:=mainNs,globals:=mainNs,cells:=[],code:=.ref 13,frame:=some 14}
noncomputable abbrev gZ:Code:=.body pk env0
noncomputable abbrev fr0:Frame:=topFrame ⟨0,0,0,0⟩
def Q0:List Stmt:=[st0,st1,st2]
def Q1:List Stmt:=[st3]
def Q2:List Stmt:=[st4]
def Q3:List Stmt:=[st5,st6,st7,st8,st9,st10,st11,st12,st13,st14,st15]
def Q4:List Stmt:=[st16,st17,st18,st19,st20]
def Q5:List Stmt:=[st21,st22,st23]
def Q6:List Stmt:=[mu,st25]
def Q7:List Stmt:=[mn,st27,st28]
def Q8:List Stmt:=[st29,st30,st31,st32,st33,st34,st35,st36,st37,st38,st39,st40,st41,st42,st43,st44,st45,st46,st47,st48,st49]
def Q9:List Stmt:=[st50,st51,st52,st53,st54,st55,st56,st57]
def Q10:List Stmt:=[cY]
def Q11:List Stmt:=[st59,st60,st61,st62,st63]
def Q12:List Stmt:=[cX]
def Q13:List Stmt:=[st65,st66,st67,st68,st69,st70,st71,st72,st73,st74,st75,st76,st77]
def Q14:List Stmt:=[st78,st79,fZ]
noncomputable abbrev PL(n:Nat)(a:SharedT)(l:List Stmt)(p:Pos)(w:World):=PySem.W.Fast.tw10110043849684766642 PySem.W.Fast.tw14364793385576792824 pwM w 11 (some (.ref 6)) 1 n a (piecesOf l env0 gZ p [fr0])
theorem sg{n:Nat}{a b:SharedT}{l:List Stmt}{p q:Pos}{w:World}(h:PL n a l p w=some (.next,b,gZ,q)):segRun treeTable pwM w 11 (some (.ref 6)) 1 n a.abs (piecesOf l env0 gZ p [fr0])=some (.next,b.abs,gZ,q):=segRun_of (by rw[PySem.W.Fast.te10110043849684766642,PySem.W.Fast.te14364793385576792824];exact h)
section
variable (w:World) (os:OsState)
theorem pc0:PL 267 (Sg0 w os) Q0 ⟨0,0,0,0⟩ w=some (.next,Sg1 w os,gZ,⟨5,0,9,24⟩):=by rfl'
theorem pc1:PL 247 (Sg1 w os) Q1 ⟨5,0,9,24⟩ w=some (.next,Sg2 w os,gZ,⟨10,0,14,20⟩):=by rfl'
theorem pc2:PL 214 (Sg2 w os) Q2 ⟨10,0,14,20⟩ w=some (.next,Sg3 w os,gZ,⟨15,0,16,8⟩):=by rfl'
theorem pc3:PL 325 (Sg3 w os) Q3 ⟨15,0,16,8⟩ w=some (.next,Sg4 w os,gZ,⟨30,0,30,10⟩):=by rfl'
theorem pc4:PL 391 (Sg4 w os) Q4 ⟨30,0,30,10⟩ w=some (.next,Sg5 w os,gZ,⟨70,0,82,48⟩):=by rfl'
theorem pc5:PL 59 (Sg5 w os) Q5 ⟨70,0,82,48⟩ w=some (.next,Sg6 w os,gZ,⟨98,0,98,7⟩):=by rfl'
theorem pc6:PL 368 (Sg6 w os) Q6 ⟨98,0,98,7⟩ w=some (.next,Sg7 w os,gZ,⟨127,0,127,8⟩):=by rfl'
theorem pc7:PL 394 (Sg7 w os) Q7 ⟨127,0,127,8⟩ w=some (.next,Sg8 w os,gZ,⟨152,0,152,5⟩):=by rfl'
theorem pc8:PL 395 (Sg8 w os) Q8 ⟨152,0,152,5⟩ w=some (.next,Sg9 w os,gZ,⟨217,0,217,4⟩):=by rfl'
theorem pc9:PL 229 (Sg9 w os) Q9 ⟨217,0,217,4⟩ w=some (.next,Sg10 w os,gZ,⟨268,0,269,42⟩):=by rfl'
theorem pc10:PL 777 (Sg10 w os) Q10 ⟨268,0,269,42⟩ w=some (.next,Sg11 w os,gZ,⟨270,0,412,73⟩):=by rfl'
theorem pc11:PL 266 (Sg11 w os) Q11 ⟨270,0,412,73⟩ w=some (.next,Sg12 w os,gZ,⟨417,0,422,24⟩):=by rfl'
theorem pc12:PL 931 (Sg12 w os) Q12 ⟨417,0,422,24⟩ w=some (.next,Sg13 w os,gZ,⟨423,0,541,50⟩):=by rfl'
theorem pc13:PL 372 (Sg13 w os) Q13 ⟨423,0,541,50⟩ w=some (.next,Sg14 w os,gZ,⟨645,0,647,86⟩):=by rfl'
theorem pc14:PL 91 (Sg14 w os) Q14 ⟨645,0,647,86⟩ w=some (.next,Sg15 w os,gZ,⟨659,0,696,75⟩):=by rfl'
end
end
def R15:List Stmt:=[]
def R14:=Q14++R15
def R13:=Q13++R14
def R12:=Q12++R13
def R11:=Q11++R12
def R10:=Q10++R11
def R9:=Q9++R10
def R8:=Q8++R9
def R7:=Q7++R8
def R6:=Q6++R7
def R5:=Q5++R6
def R4:=Q4++R5
def R3:=Q3++R4
def R2:=Q2++R3
def R1:=Q1++R2
def R0:=Q0++R1
theorem preM(w:World)(os:OsState):topGo treeTable pwM w 11 (some (.ref 6)) 12 ⟨boot_heap w.params,#[],boot_drawn,boot_toks,os⟩ (topStub pwM)=some ((Sg0 w os).abs,⟨denote treeTable gZ,gZ,⟨0,0,0,0⟩,[fr0]⟩):=by rfl'
theorem blkM(w:World)(os:OsState):segRun treeTable pwM w 11 (some (.ref 6)) 1 1 (Sg0 w os).abs (blockOf pk env0 gZ ⟨0,0,0,0⟩ [fr0])=some (.next,(Sg0 w os).abs,gZ,⟨0,0,0,0⟩):=by rfl'
theorem finM(w:World)(os:OsState):topRun treeTable pwM w 11 (some (.ref 6)) 2 (Sg15 w os).abs ⟨doneF .next,gZ,⟨659,0,696,75⟩,[fr0]⟩=some (Sg15 w os).abs:=by rfl'
theorem body_R:pk=R0:=by rfl'
theorem runM(w:World)(os:OsState):topRun treeTable pwM w 11 (some (.ref 6)) (12+(1+(267+(247+(214+(325+(391+(59+(368+(394+(395+(229+(777+(266+(931+(372+(91+2))))))))))))))))) ⟨boot_heap w.params,#[],boot_drawn,boot_toks,os⟩ (topStub pwM)=some (Sg15 w os).abs:=by
 refine go_top (preM w os) (piece_block (blkM w os) ?_);rw[body_R];refine piece_app (rest:=R1) (sg (pc0 w os)) ?_;refine piece_app (rest:=R2) (sg (pc1 w os)) ?_;refine piece_app (rest:=R3) (sg (pc2 w os)) ?_;refine piece_app (rest:=R4) (sg (pc3 w os)) ?_;refine piece_app (rest:=R5) (sg (pc4 w os)) ?_;refine piece_app (rest:=R6) (sg (pc5 w os)) ?_;refine piece_app (rest:=R7) (sg (pc6 w os)) ?_;refine piece_app (rest:=R8) (sg (pc7 w os)) ?_;refine piece_app (rest:=R9) (sg (pc8 w os)) ?_;refine piece_app (rest:=R10) (sg (pc9 w os)) ?_;refine piece_app (rest:=R11) (sg (pc10 w os)) ?_;refine piece_app (rest:=R12) (sg (pc11 w os)) ?_;refine piece_app (rest:=R13) (sg (pc12 w os)) ?_;refine piece_app (rest:=R14) (sg (pc13 w os)) ?_;refine piece_app (rest:=R15) (sg (pc14 w os)) ?_;exact piece_nil (finM w os)
noncomputable def qM:Program:={pwM with main:={pwM.main with body:=[fZ]}}
noncomputable def mS:List String->List Str|[]=>[]|x::r=>Str.ofString x::mS r
noncomputable def bx:List Str:=mS ["_wall","DebugFault","Trap","CommandFault","NotTold","function_low","MASK_handcall","RA","SP_handcall","A0_handcall","MOST_NUMBERS","GAP","MOST_STEPS","Kept","check_numbers","objects_end","lead_in","ran","called","NOWHERE","Entry","Program","PLAIN","PRODUCTS","NUMBERS","LOADS","STORES","BRANCHES","ECALL","EBREAK_rv32","signed","branch_distance","jump_distance","told_word","register_row","number_row","decode","MASK_cpu","SIGN","SP_cpu","A0_cpu","A7","EXIT","PUT","with_sign","shifted","quotient","upper_product","worked","holds","width_of","Machine","EBREAK_target","WORD","ACCESSES","Event","Target","_law_homes","_law_all","_law_draw","_law_word","_law_odd_rows","_law_rows","_law_reckoned","_law_access","_law_walk","_law_function","_law_laid","_law_shown","_law_heard","_law_room"]
noncomputable def HF(P:Params):Heap:=absHeap (T15 P) 735 {}
noncomputable def badIds:List String:=Builtin.Bytes.decodersThatHold++["bytearray.__contains__","bytearray.__mod__","bytearray.__rmod__","_struct.pack_into.held","bytearray.find.held"]
noncomputable def Cl:Code->Bool
 | .builtin id _=>!badIds.contains id
 | _=>true
noncomputable def CB(l:List (Code×Pos)):Prop:=∀x∈l,Cl x.1=true
noncomputable def wpAny{α:Type}(M:Model)(A:Around)(t:Sem α)(Q:α->Shared->Prop)(E:Value->Shared->Prop)(s:Shared):Prop :=
 ∀Γ p,Γ.In A->Cl Γ.code=true->CB Γ.below->Sem.wp M Γ t (λa _ s'=>Q a s') (λe _ s'=>E e s') p s
noncomputable def af(M:Model)(A:Around)(c:Code)(R:Result->Shared->Prop)(s:Shared):Prop :=
 ∀Γ p,Γ.code=c->Γ.Below A->CB Γ.below->wpCode M Γ R p s
structure Wit where
 w:World
 h:Heap
 b:Nat
 is:List Int
 keep:∀a o,(HF w.params).get? a=some o->h.get? a=some o
 list:∃vs n,h.get? b=some {cls:=.type "list",data:=.seq vs.toArray n}/\IntsAre vs is
 len:is.length<=63
noncomputable def Good(x:Wit):Prop:=∀(s:Shared) (Q E:Value->Shared->Prop),s.heap=x.h->s.gens=#[]->(∀s',OldK x.h s'.heap->s'.os=s.os->s'.gens=#[]->Q (.bool true) s')->wpAny (model pwM x.w) callerA (PySem.call (.ref 734) [.ref x.b]) Q E s
noncomputable def par0:Params:={strHash:=λ_=>0,shareClass:=id,mergeTok:=id,idOf:=λ_=>0,idOfShared:=λ_ _=>0,followText:=λ_=>false,idOfImm:=λ_=>0}
noncomputable def wit0:Wit:=⟨⟨λ_ _=>0,par0⟩,(HF par0).push {cls:=.type "list",data:=.seq #[] 0},(HF par0).objs.size,[],λa o e=>qE _ e,⟨[],0,qK _ rfl,.nil⟩,by decide⟩
noncomputable def wit:Wit:=@Classical.epsilon Wit ⟨wit0⟩ λx=>¬Good x
theorem all_good(h:Good wit)(x:Wit):Good x:=Classical.byContradiction λn=>Classical.epsilon_spec (p:=λx=>¬Good x) ⟨x,n⟩ h
noncomputable def w0:World:=wit.w
theorem zw:Nonempty World:=⟨w0⟩
noncomputable def Bs:Heap:=wit.h.update 731 λ_=>{cls:=.none,data:=.freed}
noncomputable def jc:Nat:=wit.b
noncomputable def sInts:List Int:=wit.is
noncomputable def gF:Nat:=731
noncomputable def lawA:Nat:=733
abbrev prog:Program:=pwM
def KFd(P:Params):Frag:=[(2,o2_ P),(38,o38 [r_ 58,r_ 70,r_ 82]),(37,o37 P),(35,f35.2),(58,o58),(57,o57 P),(55,f55.2),(70,o70),(69,o69 P),(82,o82),(81,o81 P),(115,o115),(114,o114 P),(105,f105.2),(112,f112.2),(197,o197),(196,o196 P),(166,f166.2),(173,f173.2),(180,f180.2),(187,f187.2),(194,f194.2),(247,o247),(246,o246 P),(216,f216.2),(223,f223.2),(230,f230.2),(237,f237.2),(244,f244.2),(484,o484),(483,o483 P),(369,f369.2),(376,f376.2),(383,f383.2),(390,f390.2),(397,f397.2),(404,f404.2),(411,f411.2),(418,f418.2),(425,f425.2),(432,f432.2),(439,f439.2),(446,f446.2),(453,f453.2),(460,f460.2),(467,f467.2),(474,f474.2),(481,f481.2),(506,o506),(505,o505 P),(503,f503.2),(642,o642),(641,o641 P),(524,f524.2),(531,f531.2),(562,f562.2),(569,f569.2),(576,f576.2),(583,f583.2),(590,f590.2),(597,f597.2),(604,f604.2),(611,f611.2),(618,f618.2),(625,f625.2),(632,f632.2),(639,f639.2)]
def KF:Frag:=KFd w0.params
abbrev M:Model:=model prog w0
abbrev xe(x:X):Expr:=(er x).e
abbrev xl(x:X):List Expr:=(er x).l
abbrev xss(x:X):List Stmt:=(er x).ss
section
section
variable {α β:Type} {A:Around} {E:Value->Shared->Prop} {s:Shared} {env:Env} {R:Result->Shared->Prop}
theorem lw{t:Sem α}{Q:α->Shared->Prop}(h:PySem.wpAny M A t Q E s):wpAny M A t Q E s:=λΓ p a _ _=>h Γ p a
theorem lc{c:Code}(h:PySem.codeAny M A c R s):af M A c R s:=λΓ p a b _=>h Γ p a b
theorem a7{a:α}{Q:α->Shared->Prop}(h:Q a s):wpAny M A (pure a) Q E s:=lw (qB h)
theorem gq{e:Value}{Q:α->Shared->Prop}(h:E e s):wpAny M A (throw e:Sem α) Q E s:=lw (PySem.wpAny_throw h)
theorem aj{pos:Pos}{Q:Unit->Shared->Prop}(h:Q () s):wpAny M A (standAt pos) Q E s:=lw (PySem.wpAny_standAt h)
theorem dz{Q:Unit->Shared->Prop}(h:Q () s):wpAny M A point Q E s:=lw (PySem.wpAny_point h)
theorem ba{tag:String}{Q:Unit->Shared->Prop}(h:Q () s):wpAny M A (rule tag) Q E s:=lw (PySem.wpAny_rule h)
theorem bv{m:Sem α}{a:α}{Q:α->Shared->Prop}(e:m=pure a)(h:Q a s):wpAny M A m Q E s:=lw (qV e h)
theorem bU{a:Addr}{o:Obj}{Q:Obj->Shared->Prop}(e:s.heap.get? a=some o)(h:Q o s):wpAny M A (load a) Q E s:=lw (PySem.wpAny_load e h)
theorem ag{t:Sem α}{Q Q':α->Shared->Prop}{E':Value->Shared->Prop}(h:wpAny M A t Q E s)(q:∀a s,Q a s->Q' a s)(e:∀v s,E v s->E' v s):wpAny M A t Q' E' s :=
 λΓ p a b d=>Sem.wp_mono M Γ t (λx _ s=>q x s) (λx _ s=>e x s) p s (h Γ p a b d)
theorem a0{m:Sem α}{f:α->Sem β}{Q:β->Shared->Prop}(h:wpAny M A m (λa s'=>wpAny M A (f a) Q E s') E s):wpAny M A (m>>=f) Q E s:=λΓ p a b d=>by
 rw[Sem.wp_bind'];exact Sem.wp_mono M Γ m (λx p' s' z=>z Γ p' a b d) (λ_ _ _ z=>z) p s (h Γ p a b d)
theorem seq{m:Sem α}{f:α->Sem β}{P:α->Shared->Prop}{Q:β->Shared->Prop}(h:wpAny M A m P E s)(k:∀a s',P a s'->wpAny M A (f a) Q E s'):wpAny M A (m>>=f) Q E s:=a0 (ag h k λ_ _ e=>e)
theorem ac{vs:List Value}{m:Sem α}{Q:α->Shared->Prop}(h:wpAny M A m Q E s):wpAny M A (holding vs m) Q E s:=λΓ p a b d=>by rw[Sem.wp_holding];exact h Γ p a b d
theorem lW{vs:List Value}{m:Sem α}{Q:α->Shared->Prop}(h:wpAny M A m Q E s):wpAny M A (m.keep vs) Q E s:=λΓ p a b d=>by rw[Sem.wp_keep];exact h Γ p a b d
theorem c9{vs:List Value}{m:Sem Value}{Q:Value->Shared->Prop}(h:wpAny M A m Q E s):wpAny M A (operate vs m) Q E s:=λΓ p a b d=>by rw[Sem.wp_operate];exact h Γ p a b d
theorem aW{m:Sem α}{Q:Except Value α->Shared->Prop}(h:wpAny M A m (λa=>Q (.ok a)) (λe=>Q (.error e)) s):wpAny M A m.attempt Q E s:=λΓ p a b d=>by rw[Sem.wp_attempt];exact h Γ p a b d
theorem bc{m:Sem α}{k:Value->Sem Unit}{Q:α->Shared->Prop}(h:wpAny M A m Q (λe s'=>wpAny M A (k e) (λ_ s''=>E e s'') E s') s):wpAny M A (m.onRaise k) Q E s:=λΓ p a b d=>by
 rw[Sem.wp_onRaise];exact Sem.wp_mono M Γ m (λ_ _ _ z=>z) (λe p' s' z=>z Γ p' a b d) p s (h Γ p a b d)
theorem bo{c:Code}{R':Result->Shared->Prop}(h:af M A c R s)(q:∀r s,R r s->R' r s):af M A c R' s:=λΓ p a b d=>wpCode_mono q (h Γ p a b d)
theorem CB.cons{Γ:Ctx}{p:Pos}(b:Cl Γ.code=true)(d:CB Γ.below):CB ((Γ.code,p)::Γ.below):=λx m=>by
 rcases List.mem_cons.mp m with rfl|m
 .exact b
 .exact d x m
theorem j4{c:Code}{h:Option Value}{Q:Flow->Shared->Prop}(hc:af M (A.mark h) c (λr s'=>match r with|.ok f=>Q f s'|.error e=>E e s') s)(nb:h≠some byPass:=by intro x;cases x):wpAny M A (run c h) Q E s :=
 λΓ p a b d=>by rw[Sem.wp_run];exact hc _ p rfl (a.enter c h p nb) (CB.cons b d)
theorem h9{c:Code}{Q:Value->Shared->Prop}(hc:af M A c (λr s'=>match r with|.ok (.ret v)=>Q v s'|.ok _=>False|.error e=>E e s') s):wpAny M A (runValue c) Q E s :=
 λΓ p a b d=>by rw[Sem.wp_runValue];exact hc _ p rfl (a.enter c none p (by intro x;cases x)) (CB.cons b d)
theorem aZ{f:Value}{pos:List Value}{kw:List (Str×Value)}{Q:Value->Shared->Prop}(hc:af M A (.call f ⟨pos,kw⟩) (λr s'=>match r with|.ok (.ret v)=>Q v s'|.ok _=>False|.error e=>E e s') s):wpAny M A (call f pos kw) Q E s:=h9 hc
theorem aq{c:Code}(h:wpAny M (A.under c) (M.den c) (λfin s'=>match fin with|.done f=>R (.ok f) s'|.again c'=>c'.quiet=true/\af M A c' R s') (λe s'=>R (.error e) s') s)(hc:Cl c=true:=by rfl):af M A c R s:=λΓ p a b d=>by
 rw[wpCode_iff_wp,a];refine Sem.wp_mono M Γ _ (λfin p' s' z=>?_) (λ_ _ _ z=>z) p s (h Γ p (a▸b.in) (a▸hc) d);cases fin with
 | done f=>exact z
 | again c'=>exact⟨z.1,z.2 (Γ.goto c') p' rfl (b.goto c') d⟩
def aH(M:Model)(A:Around)(env:Env)(E:Value->Shared->Prop):Value->Shared->Prop:=λx s'=>wpAny M A (noteFrame x env) (λ_ s''=>E x s'') E s'
def aO(M:Model)(A:Around)(env:Env)(E:Value->Shared->Prop):Value->Shared->Prop:=λx s'=>wpAny M A (do
  if(<-field x 1)==.none then unsupported "frame.own-activation:exception-without-traceback"
  setFlight x env.frame) (λ_ s''=>E x s'') E s'
theorem bE{m:Sem α}{Q:α->Shared->Prop}(h:wpAny M A m Q (aH M A env E) s):wpAny M A (m.onRaise λx=>do noteFrame x env;theTreesLotGoes x) Q E s :=
 bc (ag h (λ_ _ q=>q) λ_ _ z=>seq z λ_ _ e=>lw (wpAny_theTreesLotGoes e))
theorem iS{m:Sem α}{pos:Pos}{Q:α->Shared->Prop}(h:wpAny M A m Q (aH M A env E) s):wpAny M A (m.onRaise λx=>do noteFrame x env;standAt pos) Q E s :=
 bc (ag h (λ_ _ q=>q) λ_ _ z=>seq z λ_ _ e=>aj e)
theorem bH{c:Code}{h:Option Value}{Q:Flow->Shared->Prop}(hc:af M (A.mark h) c (λr s'=>match r with|.ok f=>Q f s'|.error e=>aO M A env E e s') s)(nb:h≠some byPass:=by intro x;cases x):wpAny M A (runOwn c env h) Q E s:=by
 unfold runOwn;exact bc (j4 hc nb)
theorem hH{x:Str}{pos:Pos}{Q:Value->Shared->Prop}(h:wpAny M A (loadName env x) Q E s)(hd:(x==("__debug__":Str))=false:=by decide):wpAny M A (eval (.Name x pos) env) Q E s:=by
 rw[eval_Name env x pos hd];exact a0 (aj h)
theorem cW{x:Expr}{rest:List Expr}{Q:Bool->Shared->Prop}(h:wpAny M A (isTrue x env (eval x env)) (λb rj=>if b then wpAny M A (allTrue .And rest env) Q E rj else Q false rj) E s):wpAny M A (allTrue .And (x::rest) env) Q E s:=by
 exact seq h λb rj z=>by cases b with|false=>exact a7 z|true=>exact z
theorem dq{x:Expr}{rest:List Expr}{Q:Bool->Shared->Prop}(h:wpAny M A (isTrue x env (eval x env)) (λb rj=>if b then Q true rj else wpAny M A (allTrue .Or rest env) Q E rj) E s):wpAny M A (allTrue .Or (x::rest) env) Q E s:=by
 exact seq h λb rj z=>by cases b with|false=>exact z|true=>exact a7 z
theorem Calls.spliced_cons{x:Sem Value}{rest:List (Bool×Sem Value)}{Q:List Value->Shared->Prop}(h:wpAny M A x (λv rj=>wpAny M A (spliced rest) (λvs ry=>Q (v::vs) ry) E rj) E s):wpAny M A (spliced ((false,x)::rest)) Q E s:=by
 refine seq h λv rj z=>?_;exact a0 (a7 (a0 (ac (ag z (λvs ry z=>a7 z) λ_ _ e=>e))))
theorem Calls.evalArgs_plain{f:Value}{x:Sem Value}{rest:List (Bool×Sem Value)}{Q:Args->Shared->Prop}(h:wpAny M A (spliced ((false,x)::rest)) (λvs s'=>Q ⟨vs,[]⟩ s') E s):wpAny M A (evalArgs f true ((false,x)::rest) []) Q E s:=by
 unfold evalArgs;exact seq (m:=spliced ((false,x)::rest)) h λvs s' z=>ac (a0 (a7 (a0 (a7 (a7 z)))))
theorem bI{x:Str}{v:Value}{Q:Unit->Shared->Prop}(h:wpAny M A (storeName env x v) Q E s):wpAny M A (bindName env x v) Q E s:=λΓ p a b d=>by rw[Sem.wp_bindName];exact h Γ p a b d
theorem bJ{x:Str}{pos:Pos}{v:Value}{Q:Unit->Shared->Prop}(h:wpAny M A (storeName env x v) Q E s):wpAny M A (assign (.Name x pos) env v) Q E s:=by
 rw[PySem.assign_Name];exact a0 (aj (bI h))
theorem fU{st:Stmt}{rest:List Stmt}{Q:Flow->Shared->Prop}(h:wpAny M A (exec st env) (λf s'=>match f with|.next=>wpAny M A (execs rest env) Q E s'|f=>Q f s') E s):wpAny M A (execs (st::rest) env) Q E s:=by
 exact seq h λf s' z=>by cases f<;>first|exact z|exact a7 z
theorem eL{e:Value}{Q:Flow->Shared->Prop}(h:wpAny M A (passOn "try.no-clause-matches" e env) Q E s):wpAny M A (handleBy e env []) Q E s:=by unfold handleBy;exact h
theorem eh{e:Value}{t:Expr}{name:Option Str}{body:List Stmt}{pos:Pos}{rest:List ExceptHandler}{Q:Flow->Shared->Prop}
  (h:af M (A.mark (some e)) (.handlers e [.ExceptHandler (some t) none [] pos] env) (λr rj=>match r with
   | .ok .brk=>af M (A.mark (some e)) (.handlers e [.ExceptHandler none name body pos] env) (λr ry=>match r with
     | .ok f=>(match name with
      | none=>Q f ry
      | some n=>wpAny M A (do bindName env n .none;unbindBehindTheSuite env n pos) (λ_ rE=>Q f rE) E ry)
     | .error x=>aO M A env E x ry) rj
   | .ok _=>wpAny M A (handleBy e env rest) Q E rj
   | .error x=>aO M A env E x rj) s) (hnb:e≠byPass):wpAny M A (handleBy e env (.ExceptHandler (some t) name body pos::rest)) Q E s:=by
 exists s h hnb,zA A,aN E,zQ env,zV e,ze t,zO name,zL body,zP pos,zL rest,aN Q;have nb:(some e:Option Value)≠some byPass:=λx=>hnb (qJ x);refine a0 (ac (bH (bo h λr rj z=>?_) nb));cases r with
 | error x=>exact z
 | ok f =>
  cases f with
  | brk =>
   refine a0 (a7 (a0 (ac (bH (bo z λr ry z'=>?_) nb))));cases r with
   | error x=>exact z'
   | ok f=>cases name with
    | none=>exact a7 z'
    | some n=>exact a0 (ac (ag z' (λ_ _ z=>a7 z) λ_ _ e=>e))
  | _=>exact a0 (a7 z)
theorem j5{target iter:Expr}{body orelse:List Stmt}{pos:Pos}{Q:Flow->Shared->Prop}
  (h:wpAny M A (eval iter env) (λx rj=>wpAny M A (pyIter x) (λit ry=>af M A (.forLoop target it body orelse env) (λr s'=>match r with|.ok f=>Q f s'|.error e=>aO M A env E e s') ry) E rj) E s)
  (hs:∀x,foldedSetIterable iter env x=pure x:=by intro _;rfl):wpAny M A (exec (.For target iter body orelse pos) env) Q E s:=by
 exact a0 (aj (seq h λx rj z=>a0 (bv (hs x) (a0 (aj (a0 (ac (ag z (λit ry z=>bH z) λ_ _ e=>e))))))))
theorem tryE{body orelse:Sem Flow}{s8:ExceptHandler}{hs:List ExceptHandler}{Q:Flow->Shared->Prop}
  (h:wpAny M A body (λf rj=>match f with|.next=>wpAny M A orelse Q E rj|f=>Q f rj) (λe rj=>wpAny M A (noteFrame e env) (λ_ ry=>wpAny M A (setFlight e none) (λ_ rE=>wpAny M A (handleBy e env (s8::hs)) Q E rE) E ry) E rj) s) :
  wpAny M A (tryStmt false body (s8::hs) orelse [] env) Q E s:=by
 unfold tryStmt;refine a0 (aW (ag h (λf rj z=>?_) λe rj z=>seq z λ_ _ z=>a0 z));cases f<;>first|exact z|exact a7 z
end
end
section
open PySem.Calls
section
variable {M:Model} {A:Around} {E:Value->Shared->Prop} {s:Shared} {α:Type} {p:Prop} [Decidable p] {a b:Sem α} {Q:α->Shared->Prop}
theorem ifN(h:¬p)(q:wpAny M A b Q E s):wpAny M A (if p then a else b) Q E s:=by
 rw[if_neg h];exact q
theorem ifP(h:p)(q:wpAny M A a Q E s):wpAny M A (if p then a else b) Q E s:=by
 rw[if_pos h];exact q
theorem ifN'(h:¬p)(q:PySem.wpAny M A b Q E s):PySem.wpAny M A (if p then a else b) Q E s:=by
 rw[if_neg h];exact q
theorem ifP'(h:p)(q:PySem.wpAny M A a Q E s):PySem.wpAny M A (if p then a else b) Q E s:=by
 rw[if_pos h];exact q
end
end
local macro_rules | `(tactic| exists $x) => `(tactic| first | refine ifN $x ?_ | refine ifN' $x ?_)
local macro_rules | `(tactic| exists $x, $_) => `(tactic| first | refine ifP $x ?_ | refine ifP' $x ?_)
section
section
variable {α β:Type} {A:Around} {E:Value->Shared->Prop} {s:Shared} {env:Env} {R:Result->Shared->Prop}
theorem ce{id:String}{args:Args}{b:Builtin}(hb:entryFor table id=some b)
  (h:wpAny M (A.under (.builtin id args)) (b args) (λfin s'=>match fin with|.done f=>R (.ok f) s'|.again c'=>c'.quiet=true/\af M A c' R s') (λe s'=>R (.error e) s') s)
  (hc:badIds.contains id=false:=by decide):af M A (.builtin id args) R s:=by
 refine aq ?_ (by show(!badIds.contains id)=true;rw[hc];rfl);refine(?_:wpAny _ _ (match entryFor table id with|some b=>b args|none=>unsupported ((withoutEnding? id "#data").getD id)) _ _ s);rw[hb];exact h
theorem c7{id:String}{args:Args}{b:Builtin}(hq:plainId id=true)(hb:entryFor table id=some b)
  (h:wpAny M A.in1 (checkBuiltinCall id args) (λ_ rj=>wpAny M A.in1 (b args) (λfin s'=>match fin with|.done f=>R (.ok f) s'|.again c'=>c'.quiet=true/\af M A c' R s') (λe s'=>R (.error e) s') rj) (λe s'=>R (.error e) s') s)
  (hc:badIds.contains id=false:=by decide):af M A (.call (.builtin id) args) R s:=by
 refine aq ?_;refine(?_:wpAny _ A.in1 (do checkBuiltinCall id args;again (.builtin id args)) _ _ s);exact seq h λ_ rj z=>a7 ⟨plainId_quiet hq args,ce hb (by rw[Around.under_plainId hq args];exact z) hc⟩
theorem aC{self:Value}{T:String}{name:Str}{id:String}{args:List Value}{kw:List (Str×Value)}{Q:Option Value->Shared->Prop}(hT:s.TypeIs self T)(h:Slot T name id)
  (hc:wpAny M A (call (.builtin id) (self::args) kw) (λv=>Q (some v)) E s):wpAny M A (callSpecial? self name args kw) Q E s:=by
 simp only[callSpecial?];refine a0 (lw (qR hT h.lookup ?_));simp only[h.bind];exact ac (a0 (a7 (seq hc λv s' z=>a7 z)))
theorem gB{id T:String}{name:Str}{self:Value}{rest:List Value}{Q:Unit->Shared->Prop}(h:Slot T name id)(hT:s.TypeIs self T)(ha:argsOk id ⟨self::rest,[]⟩)(q:Q () s):wpAny M A (checkBuiltinCall id ⟨self::rest,[]⟩) Q E s:=lw (h.check _ _ _ _ _ _ _ _ hT ha q)
theorem aY{T:String}{name:Str}{id:String}{b:Builtin}{self:Value}{rest:List Value}{Q:Value->Shared->Prop}(h:Slot T name id)(hT:s.TypeIs self T)(hb:entryFor table id=some b)
  (hc:wpAny M A.in1 (b ⟨self::rest,[]⟩) (λfin s'=>∃v,fin=.done (.ret v)/\Q v s') E s) (ha:argsOk id ⟨self::rest,[]⟩:=by rfl) (hcl:badIds.contains id=false:=by decide):wpAny M A (call (.builtin id) (self::rest)) Q E s:=by
 refine aZ (c7 h.plain hb (gB h hT ha (ag hc (λfin s' z=>?_) λ_ _ z=>z)) hcl);obtain⟨v,rfl,z⟩:=z;exact z
theorem fQ{body:List Stmt}(h:wpAny M (A.deeper env) (execs body env) (λf s'=>R (.ok (.ret (match f with|.ret v=>v|_=>.none))) s')
   (λe s'=>wpAny M (A.deeper env) (leaving env e) (λ_ s''=>R (.error e) s'') (λe' s''=>R (.error e') s'') s') s):af M A (.func body env) R s:=by
 refine aq ?_;refine(?_:wpAny _ (A.deeper env) (do point;match <-(execs body env).onRaise (leaving env) with|.ret v=>ret v|_=>ret .none) _ _ s);refine a0 (dz (a0 (bc (ag h (λf s' z=>?_) λ_ _ z=>z))));cases f<;>exact a7 z
theorem jU{e:Expr}(h:wpAny M (A.deeper env) (eval e env) (λv s'=>R (.ok (.ret v)) s')
   (λe' s'=>wpAny M (A.deeper env) (leaving env e') (λ_ s''=>R (.error e') s'') (λe'' s''=>R (.error e'') s'') s') s):af M A (.expr e env) R s:=by
 refine aq ?_;refine(?_:wpAny _ (A.deeper env) (do point;ret (<-(eval e env).onRaise (leaving env))) _ _ s);exact a0 (dz (a0 (bc (ag h (λv s' z=>a7 z) λ_ _ z=>z))))
theorem bT{a:Addr}{args:Args}{o:Obj}{fd:FuncData}{body:List Stmt}(hroom:A.depth<recursionLimit)(ho:s.heap.get? a=some o)
  (hd':o.data=.func fd) (hco:fd.scope.isCoroutine=false) (hgen:fd.scope.isGenerator=false) (hbody:fd.body=.stmts body) (hcd:s.heap.CodeRec fd.code fd.qualname)
  (h:wpAny M A.in1 (bindArgs fd args) (λbinds rj =>
   wpAny M A.in1 (newFunctionEnv fd.scope fd.globals fd.closure binds (fd.qualname++".<locals>.") (some a) fd.code none fd.builtins)
    (λenv ry=>ry.heap.NoLimit/\af M A (.func body env) R ry) (λe s'=>R (.error e) s') rj) (λe s'=>R (.error e) s') s):af M A (.call (.ref a) args) R s:=by
 exists hroom ho hd' hco hgen hbody hcd h,zA A,zS s,aN R,zN a,zar args,zb o,zf fd,zL body;refine nn λno=>?_;obtain⟨c,oc,vs,tq,hc,hoc,hdc,hq⟩:=hcd;refine no ?_;refine aq ?_;refine(?_:wpAny _ A.in1 (callAny (.ref a) args) _ _ s);refine a0 (bU ho ?_);simp only[hd',callFunction,hco,hgen,hbody,hc];rw[hc] at h;exact a0 (m:=field (.ref c) 1) (lw (wpAny_field hoc hdc hq (a0 (a7 (seq h λbinds rj z=>seq z λenv ry z=>a0 (lw (wpAny_enterFrame z.1 hroom (a7 ⟨rfl,z.2⟩))))))))
theorem jV{a:Addr}{args:Args}{o:Obj}{fd:FuncData}{body:Expr}(hroom:A.depth<recursionLimit)(ho:s.heap.get? a=some o)
  (hd':o.data=.func fd) (hco:fd.scope.isCoroutine=false) (hgen:fd.scope.isGenerator=false) (hbody:fd.body=.expr body) (hcd:s.heap.CodeRec fd.code fd.qualname)
  (h:wpAny M A.in1 (bindArgs fd args) (λbinds rj =>
   wpAny M A.in1 (newFunctionEnv fd.scope fd.globals fd.closure binds (fd.qualname++".<locals>.") (some a) fd.code none fd.builtins)
    (λenv ry=>ry.heap.NoLimit/\af M A (.expr body env) R ry) (λe s'=>R (.error e) s') rj) (λe s'=>R (.error e) s') s):af M A (.call (.ref a) args) R s:=by
 exists hroom ho hd' hco hgen hbody hcd h,zA A,zS s,aN R,zN a,zar args,zb o,zf fd,ze body;refine nn λno=>?_;obtain⟨c,oc,vs,tq,hc,hoc,hdc,hq⟩:=hcd;refine no ?_;refine aq ?_;refine(?_:wpAny _ A.in1 (callAny (.ref a) args) _ _ s);refine a0 (bU ho ?_);simp only[hd',callFunction,hco,hgen,hbody,hc];rw[hc] at h;exact a0 (m:=field (.ref c) 1) (lw (wpAny_field hoc hdc hq (a0 (a7 (seq h λbinds rj z=>seq z λenv ry z=>a0 (lw (wpAny_enterFrame z.1 hroom (a7 ⟨rfl,z.2⟩))))))))
theorem iteW{Q:Value->Shared->Prop}{c:Prop}{d:Decidable c}{x y:Sem Value}(hx:wpAny M A x Q E s)(hy:wpAny M A y Q E s):wpAny M A (@ite _ c d x y) Q E s:=by
 by_cases h:c
 .rw[if_pos h];exact hx
 .rw[if_neg h];exact hy
theorem fS{pos:Pos}{f:Value}{first:List Value}{args:List (Bool×Sem Value)}{keywords:List (Option Str×Sem Value)}{P:Heap->Prop}{Q:Value->Shared->Prop}(hplain:(args.any (·.1)||keywords.any (·.1.isNone))=false)
  (hk:∀h,P h->∃k,(k=Keeper.frame\/k=Keeper.machine\/k=Keeper.boundFrame)/\Looks M h (keeperOf f) k)
  (h:wpAny M A (evalArgs f true args keywords) (λa rj=>P rj.heap/\wpAny M A (call f (first++a.pos) a.kw) Q E rj) E s):wpAny M A (callWith pos f first args keywords) Q E s:=by
 exists hplain hk h,zA A,aN E,zS s,zP pos,zV f,zL first,zL args,zL keywords,zp1 P,aN Q
 refine a0 (ac (ag h (λa rj z=>a0 (aj ?_)) λ_ _ e=>e));refine nn λno=>?_;obtain⟨k,hk',L⟩:=hk _ z.1;refine no ?_;rw[hplain];refine a0 (lw (L.here ?_));have tl:∀{t:Sem Value},wpAny M A t Q E rj->wpAny M A (t>>=λr=>holding [r] point>>=λ_=>pure r) Q E rj:=λz=>seq z λr ry z=>a0 (ac (dz (a7 z)));have mk (m:Value):wpAny M A (callMarked m f (first++a.pos) a.kw) Q E rj:=by unfold callMarked;exact lW z.2
 rcases hk' with rfl|rfl|rfl<;>dsimp only<;>first|exact tl z.2|exact iteW (tl z.2) (tl (mk _))
theorem lJ{pos:Pos}{f:Value}{first:List Value}{Q:Value->Shared->Prop}{P:Heap->Prop}{args:List (Bool×Sem Value)}{keywords:List (Option Str×Sem Value)}(hplain:(args.any (·.1)||keywords.any (·.1.isNone))=false)
  (hk:∀h,P h->∃k,(k=Keeper.frame\/k=Keeper.machine\/k=Keeper.boundFrame)/\Looks M h (keeperOf f) k)
  (h:wpAny M A (evalArgs f true args keywords) (λa rj=>P rj.heap/\wpAny M A (call f (first++a.pos) a.kw) Q E rj) E s):wpAny M A (callWith pos f first args keywords) Q E s:=fS hplain hk h
theorem j0{pos:Pos}{T:String}{first:List Value}{args:List (Bool×Sem Value)}{Q:Value->Shared->Prop}(hplain:args.any (·.1)=false)
  (h:wpAny M A (evalArgs (.type T) true args []) (λa rj=>wpAny M A (call (.type T) (first++a.pos) a.kw) Q E rj) E s):wpAny M A (callWith pos (.type T) first args []) Q E s :=
 fS (P:=λ_=>True) (by simpa using hplain) (λ_ _=>⟨_,.inr (.inl rfl),λA Q E s _ q=>qB q⟩) (ag h (λ_ _ z=>⟨trivial,z⟩) λ_ _ e=>e)
theorem iF{pos:Pos}{T:String}{e:Expr}{rest:List Expr}{Q:Value->Shared->Prop}(h:wpAny M A (spliced (backTo pos (starEach (e::rest) env))) (λvs rj=>wpAny M A (call (.type T) vs) Q E rj) E s)
  (he:starEach (e::rest) env=(false,eval e env)::starEach rest env:=by rfl) (hplain:(backTo pos (starEach rest env)).any (·.1)=false:=by rfl):wpAny M A (callWith pos (.type T) [] (backTo pos (starEach (e::rest) env)) []) Q E s:=by
 rw[he] at h ⊢;exact j0 (show(false||(backTo pos (starEach rest env)).any (·.1))=false by rw[hplain];rfl) (Calls.evalArgs_plain h)
theorem hJ{e:Expr}{pos:Pos}{Q:Flow->Shared->Prop}(h:wpAny M A (eval e env) (λ_=>Q .next) E s)(hi:interactive env=false:=by rfl)(hs:swapsWith e none pos.line env=pure false:=by rfl):wpAny M A (exec (.Expr e pos) env) Q E s:=by
 rw[exec_Expr env e pos hi hs];exact a0 (aj (seq h λv s' z=>lw (wpAny_dropValue z)))
theorem cP{stmts:List Stmt}(h:wpAny M A (execs stmts env) (λf s'=>R (.ok f) s') (aH M A env λe s'=>R (.error e) s') s):af M A (.block stmts env) R s:=by
 refine aq ?_;refine(?_:wpAny _ _ (do return Fin.done (<-(execs stmts env).onRaise (λx=>do noteFrame x env;theTreesLotGoes x))) _ _ s);exact a0 (bE (ag h (λf s' z=>a7 z) λ_ _ z=>z))
abbrev bY(A:Around)(E:Value->Shared->Prop)(env:Env)(final:List Stmt)(Q:Flow->Shared->Prop)(e:Value)(s:Shared):Prop :=
 e≠byPass/\wpAny M A (noteFrame e env) (λ_ rU=>wpAny M A (setFlight e none) (λ_ rj =>
  wpAny M (A.mark (some e)) (execs final env)
   (λg ry=>match g with|.next=>wpAny M A (passOn "try.finally" e env) Q E ry|g=>wpAny M A (setFlight e none) (λ_ rE=>Q g rE) E ry) (aH M (A.mark (some e)) env (aO M A env E)) rj) E rU) E s
theorem f7{body orelse:List Stmt}{rW:Stmt}{fs:List Stmt}{pos:Pos}{Q:Flow->Shared->Prop}
  (h:wpAny M A (execs body env)
     (λf rj=>match f with
      | .next=>wpAny M A (execs orelse env)
        (λf' ry=>wpAny M A (execs (rW::fs) env) (λg s'=>match g with|.next=>Q f' s'|g=>Q g s') (aH M A env (aO M A env E)) ry) (bY A E env (rW::fs) Q) rj
      | f=>wpAny M A (execs (rW::fs) env) (λg s'=>match g with|.next=>Q f s'|g=>Q g s') (aH M A env (aO M A env E)) rj)
     (λe rj=>wpAny M A (noteFrame e env) (λ_ ry=>bY A E env (rW::fs) Q e ry) (bY A E env (rW::fs) Q) rj) s):wpAny M A (exec (.Try body [] orelse (rW::fs) pos) env) Q E s:=by
 revert h;revert A E s env body orelse rW fs pos Q;refine @al10 _ _ _ _ _ _ _ _ _ _ zA aN zS zQ zL zL zst zL zP aN ?P ((?f:∀a b c d e f g h i j,?P a b c d e f g h i j) _ _ _ _ _ _ _ _ _ _);intro A E s env body orelse rW fs pos Q h;have plain:∀(f:Flow) (rj:Shared),wpAny M A (execs (rW::fs) env) (λg s'=>match g with|.next=>Q f s'|g=>Q g s') (aH M A env (aO M A env E)) rj ->
   wpAny M A (do
    match <-holding (match f with|.ret v=>[v]|_=>[]) (runOwn (.block (rW::fs) env) env) with
    | .next=>pure f
    | f'=>do rule "try.finally-overrides-flow";pure f') Q E rj:=by
  intro f rj z;refine a0 (ac (bH (cP ?_)));refine ag z (λg ry z=>?_) λ_ _ e=>e;cases g<;>first|exact a7 z|exact a0 (ba (a7 z))
 have raised:∀(e:Value) (rj:Shared),bY A E env (rW::fs) Q e rj ->
   wpAny M A (do
    noteFrame e env
    setFlight e none
    match <-holding [e] (runOwn (.block (rW::fs) env) env (some e)) with
    | .next=>passOn "try.finally" e env
    | f'=>do rule "try.finally-swallows-exception";setFlight e none;pure f') Q E rj:=by
  intro e rj z;refine seq z.2 λ_ ry y=>seq y λ_ rE y=>a0 (ac (bH (cP (ag y (λg rI x=>?_) λ_ _ e=>e)) λx=>z.1 (qJ x)));cases g<;>first|exact x|exact a0 (ba (seq x λ_ _ x=>a7 x))
 refine a0 (aj ?_);unfold tryStmt;refine a0 (aW (a0 (aW (ag h (λf rj z=>?_) λe rj z=>?_))))
 .cases f<;>first
   | exact ag z (λf' ry z=>plain f' ry z) λe ry z=>raised e ry z
   | exact a7 (plain _ _ z)
 .exact a0 (ag z (λ_ ry z=>gq (raised e ry z)) λe' ry z=>raised e' ry z)
theorem fV{body orelse:List Stmt}{s8:ExceptHandler}{hs:List ExceptHandler}{pos:Pos}{Q:Flow->Shared->Prop}
  (h:wpAny M A (execs body env) (λf rj=>match f with|.next=>wpAny M A (execs orelse env) Q E rj|f=>Q f rj)
   (λe rj=>wpAny M A (noteFrame e env) (λ_ ry=>wpAny M A (setFlight e none) (λ_ rE=>wpAny M A (handleBy e env (s8::hs)) Q E rE) E ry) E rj) s):wpAny M A (exec (.Try body (s8::hs) orelse [] pos) env) Q E s:=by
 exact a0 (aj (tryE h))
theorem dx{e:Value}{t:Expr}{pos:Pos}
  (h:wpAny M A (eval t env) (λc rj=>wpAny M A (excMatches e c) (λb ry=>R (.ok (if b then .brk else .next)) ry) (aH M A env λx ry=>R (.error x) ry) rj) (aH M A env λx rj=>R (.error x) rj) s) :
  af M A (.handlers e [.ExceptHandler (some t) none [] pos] env) R s:=by
 revert h;revert A s env R e t pos;refine @al7 _ _ _ _ _ _ _ zA zS zQ aN zV ze zP ?P ((?f:∀a b c d e f g,?P a b c d e f g) _ _ _ _ _ _ _);intro A s env R e t pos h;refine aq ?_;refine(?_:wpAny _ A (do return Fin.done (<-(handleWith e env [.ExceptHandler (some t) none [] pos]).onRaise (λx=>do noteFrame x env;theTreesLotGoes x))) _ _ s);refine a0 (bE ?_);unfold handleWith;exact a0 (aj (seq h λc rj z=>a0 (aj (seq z λb ry z=>a7 (a7 z)))))
theorem d5{e:Value}{rK:Stmt}{body:List Stmt}{pos:Pos}
  (h:wpAny M A (setFlight e none) (λ_ rj=>wpAny M A (execs (rK::body) env) (λf ry=>R (.ok f) ry) (aH M A env λx ry=>R (.error x) ry) rj) (aH M A env λx rj=>R (.error x) rj) s) :
  af M A (.handlers e [.ExceptHandler none none (rK::body) pos] env) R s:=by
 revert h;revert A s env R e rK body pos;refine @al8 _ _ _ _ _ _ _ _ zA zS zQ aN zV zst zL zP ?P ((?f:∀a b c d e f g h,?P a b c d e f g h) _ _ _ _ _ _ _ _);intro A s env R e rK body pos h;refine aq ?_;refine(?_:wpAny _ A (do return Fin.done (<-(handleWith e env [.ExceptHandler none none (rK::body) pos]).onRaise (λx=>do noteFrame x env;theTreesLotGoes x))) _ _ s);refine a0 (bE ?_);unfold handleWith;exact a0 (aj (seq h λ_ rj z=>ag z (λf ry z=>a7 z) λ_ _ e=>e))
theorem cI{e:Value}{n:Str}{rK:Stmt}{body:List Stmt}{pos:Pos}
  (h:wpAny M A (setFlight e none) (λ_ rj=>wpAny M A (storeName env n e) (λ_ ry =>
    wpAny M A (execs (rK::body) env) (λf rE=>R (.ok f) rE)
     (λx rE=>wpAny M A (noteFrame x env) (λ_ tD =>
      wpAny M A (do bindName env n .none;unbindBehindTheSuite env n pos)
       (λ_ rI=>wpAny M A (passOn "try.except-as" x env:Sem Flow) (λ_ _=>False) (aH M A env λx s'=>R (.error x) s') rI)
       (λy rI=>wpAny M A (setFlight x none) (λ_ sk=>(aH M A env λx s'=>R (.error x) s') y sk) (aH M A env λx s'=>R (.error x) s') rI) tD) (aH M A env λx s'=>R (.error x) s') rE) ry)
    (aH M A env λx s'=>R (.error x) s') rj) (aH M A env λx s'=>R (.error x) s') s) :
  af M A (.handlers e [.ExceptHandler none (some n) (rK::body) pos] env) R s:=by
 revert h;revert A s env R e n rK body pos;refine @al9 _ _ _ _ _ _ _ _ _ zA zS zQ aN zV zs zst zL zP ?P ((?f:∀a b c d e f g h i,?P a b c d e f g h i) _ _ _ _ _ _ _ _ _);intro A s env R e n rK body pos h;refine aq ?_;refine(?_:wpAny _ A (do return Fin.done (<-(handleWith e env [.ExceptHandler none (some n) (rK::body) pos]).onRaise (λx=>do noteFrame x env;theTreesLotGoes x))) _ _ s);refine a0 (bE ?_);unfold handleWith;refine a0 (aj (seq h λ_ rj z=>a0 (bI (ag z (λ_ ry z=>a0 (aW (ag z (λf rE z=>a7 (a7 z)) λx rE z=>?_))) λ_ _ e=>e))));exact seq z λ_ rI z=>a0 (ac (bc (ag z (λ_ sk z=>ag z (λ_ _ f=>f.elim) λ_ _ e=>e) λ_ _ e=>e)))
theorem ey{pairs:List (Sem Value×Sem Value)}{Q:List (Value×Value)->Shared->Prop}(h:wpAny M A (evalPairs pairs) Q E s):wpAny M A (evalPairs pairs) (λvs s'=>vs.length=pairs.length/\Q vs s') E s :=
 λΓ p a b d=>wp_evalPairs_len _ Γ pairs _ _ p s (h Γ p a b d)
def dJ(M:Model)(A:Around)(E:Value->Shared->Prop)(use:Option (Value->Sem Unit))(Q:Value->Shared->Prop)(acc:Value)(C:Addr)(r:Result)(s':Shared):Prop :=
 match r,use with
 | .ok _,none=>∃m,s'.heap.Ns C m/\∀h',Heap.SameBut C s'.heap h'->Q acc {s' with heap:=h'}
 | .ok _,some u=>wpAny M A (u acc) (λ_ s''=>∃m,s''.heap.Ns C m/\∀h',Heap.SameBut C s''.heap h'->Q .none {s'' with heap:=h'}) E s'
 | .error x,_=>∃m,s'.heap.Ns C m/\∀h',Heap.SameBut C s'.heap h'->∀cenv:Env,cenv.locals=C->wpAny M A (passOn "comprehension.variables-let-go" x cenv:Sem Value) (λ_ _=>False) E {s' with heap:=h'}
end
end
section
section
variable {α β:Type} {A:Around} {E:Value->Shared->Prop} {s:Shared} {env:Env} {R:Result->Shared->Prop}
theorem iR{c:Prop}[Decidable c]{pos:Pos}{k:PUnit->Sem α}{Q:α->Shared->Prop}(h:wpAny M A (k ()) Q E s):wpAny M A (if c then(standAt pos>>=k) else k ()) Q E s:=by
 by_cases z:c
 .rw[if_pos z];exact a0 (aj h)
 .rw[if_neg z];exact h
theorem d6{elt target iter:Expr}{ifs:List Expr}{rest:List Comprehension}{scope:Scope}{pos:Pos}{it acc:Value}
  (h0:af M A (.compLoop (.ListComp elt (⟨target,iter,ifs,0⟩::rest) scope pos) 0 it acc env) R s)
  (h:wpAny M A (pyIter it) (λit' s'=>af M A (.compLoop (.ListComp elt (⟨target,iter,ifs,0⟩::rest) scope pos) 0 it' acc env) R s') (aH M A env λx s'=>R (.error x) s') s) :
  af M A (.compStart (.ListComp elt (⟨target,iter,ifs,0⟩::rest) scope pos) 0 it acc env) R s:=by
 refine aq ?_;refine(?_:wpAny _ _ ((compStart (.ListComp elt (⟨target,iter,ifs,0⟩::rest) scope pos) 0 it acc env).onRaise (λx=>do noteFrame x env;standAt theWindowsPlace)) _ _ s);refine iS ?_;unfold compStart;refine a0 (m:=ask) (lw (wpAny_askSetting ?_));split
 .first
   | exact a0 (a7 (a7 ⟨rfl,h0⟩))
   | exact a7 ⟨rfl,h0⟩
 .refine a0 (ba ?_);exact a0 (m:=standAt iter.pos) (aj (seq h λit' s' z=>a7 ⟨rfl,z⟩))
theorem cN{e:Expr}{scope:Scope}{pos:Pos}{newAcc first:Sem Value}{g:Comprehension}{gs:List Comprehension}{cl:List (Str×Addr)}{use:Option (Value->Sem Unit)}{Q:Value->Shared->Prop}
  (hcl:clausesOf e=g::gs) (hs:∀x,foldedSetIterable g.iter env x=pure x) (hclos:closureFor scope env=pure cl)
  (hkind:scope.kind=.function) (hnames:∀x∈scope.names,x.2=.local->scope.names.lookup x.1=some .local)
  (h:wpAny M A first (λx rj=>wpAny M A (pyIter x) (λit ry=>wpAny M A newAcc (λacc rE =>
   wpAny M A (newFunctionEnv scope env.globals cl [] env.qual none .none (some env)) (λcenv rI =>
    af M A (.compStart e 0 it acc {cenv with scope:=relabel scope env}) (dJ M A E use Q acc cenv.locals) rI) E rE) E ry) E rj) E s) :
  wpAny M A (comprehension e scope env pos newAcc false first use) Q E s:=by
 exists g gs hcl hs hclos hkind hnames h,zA A,aN E,zS s,zQ env,ze e,zsc scope,zP pos,(zse zV) newAcc,(zse zV) first,zL cl,zO use,aN Q
 unfold comprehension;refine(hclos).symm▸?_;refine(hcl).symm▸?_;refine seq h λx rj z=>a0 (aj (a0 (bv (hs x) (a0 (ac (ag z (λit ry z=>iR (seq z λacc rE z=>a0 (a7 (seq z λcenv rI z=>?_)))) λ_ _ e=>e))))));dsimp only;have hv:∀x∈(scope.names.filter λx=>(x.2==.local||x.2==.cell)&&x.1 != (".0":Str)).reverse,x.2=.local->Env.kindOf {cenv with scope:=relabel scope env} x.1=some .local :=
  λx m l=>lookup_relabel_local (hnames x (List.mem_filter.mp (List.mem_reverse.mp m)).1 l)
 refine ac (a0 (aW (ac (j4 (bo z λr s' y=>?_)))));cases r with
 | ok f =>
  cases use with
  | none =>
   refine nn λno=>?_;obtain⟨m,hn,y⟩:=y;refine no ?_;exact a0 (ac (lw (wpAny_comp_letGo (cenv:={cenv with scope:=relabel scope env}) hkind _ s' m hv hn λh' m' _ hs'=>a7 (y h' hs'))))
  | some u =>
   refine a0 (ba (a0 (ac (ag y (λ_ s'' y=>?_) λ_ _ e=>e))));refine nn λno=>?_;obtain⟨m,hn,y⟩:=y;refine no ?_;exact a0 (lw (wpAny_comp_letGo (cenv:={cenv with scope:=relabel scope env}) hkind _ s'' m (λx m l=>(List.mem_append.mp m).elim (λm=>hv x (List.mem_of_mem_drop m) l) λm=>hv x (List.mem_of_mem_take m) l) hn λh' m' _ hs'=>a7 (y h' hs')))
 | error x =>
  have y:∃m,s'.heap.Ns cenv.locals m/\∀h',Heap.SameBut cenv.locals s'.heap h'->∀cenv':Env,cenv'.locals=cenv.locals->wpAny M A (passOn "comprehension.variables-let-go" x cenv':Sem Value) (λ_ _=>False) E {s' with heap:=h'}:=by cases use<;>exact y
  refine nn λno=>?_;obtain⟨m,hn,y⟩:=y;refine no ?_;exact a0 (ac (lw (wpAny_comp_letGo (cenv:={cenv with scope:=relabel scope env}) hkind _ s' m hv hn λh' m' _ hs'=>ag (y h' hs' _ rfl) (λ_ _ f=>f.elim) λ_ _ y=>y)))
end
end
section
inductive All2 {α β:Type} (R:α->β->Prop):List α->List β->Prop
 | nil:All2 R [] []
 | cons {a b as bs} (x:R a b) (r:All2 R as bs):All2 R (a::as) (b::bs)
section
variable {α β:Type} {R R':α->β->Prop} {l:List α} {l':List β}
theorem All2.mono(f:∀a b,R a b->R' a b)(h:All2 R l l'):All2 R' l l':=h.rec .nil λx _ r=>.cons (f _ _ x) r
theorem All2.len(h:All2 R l l'):l'.length=l.length:=h.rec rfl λ_ _ r=>qF (·+1) r
theorem All2.nil_e(h:All2 R [] l'):l'=[]:=by cases h;rfl
theorem All2.app{m:List α}{m':List β}(h:All2 R l l')(g:All2 R m m'):All2 R (l++m) (l'++m'):=h.rec g λx _ r=>.cons x r
theorem All2.get(h:All2 R l l'):∀{i:Nat} {a:α},l[i]?=some a->∃b,l'[i]?=some b/\R a b:=by
 induction h with
 | nil=>intro i a e;cases e
 | cons x r ih=>intro i a e;cases i with
  | zero=>cases e;exact⟨_,rfl,x⟩
  | succ i=>exact ih (i:=i) e
theorem All2.set{a:α}{b:β}(x:R a b)(h:All2 R l l'):∀i,All2 R (l.set i a) (l'.set i b):=by
 induction h with
 | nil=>exact λ_=>.nil
 | cons z r ih=>intro i;cases i with
  | zero=>exact .cons x r
  | succ i=>exact .cons z (ih i)
theorem All2.drop(h:All2 R l l'):∀n,All2 R (l.drop n) (l'.drop n):=by
 induction h with
 | nil=>intro n;cases n<;>exact .nil
 | cons z r ih=>intro n;cases n with
  | zero=>exact .cons z r
  | succ n=>exact ih n
theorem All2.take(h:All2 R l l'):∀n,All2 R (l.take n) (l'.take n):=by
 induction h with
 | nil=>intro n;cases n<;>exact .nil
 | cons z r ih=>intro n;cases n with
  | zero=>exact .nil
  | succ n=>exact .cons z (ih n)
end
noncomputable def biN:Nat->String
 | 0=>"len" | 1=>"max" | 2=>"min" | 3=>"sorted" | _=>"abs"
noncomputable def tyN:Nat->String
 | 0=>"range" | 1=>"list" | 2=>"bytearray" | 3=>"bytes" | 4=>"enumerate" | 5=>"int" | _=>"Exception"
structure Y where
 θ:Hd->Option Addr
 own:Addr->Prop
 s:Shared
theorem zY:Nonempty Y:=⟨λ_=>none,λ_=>False,{}⟩
noncomputable abbrev Y.h(y:Y):Heap:=y.s.heap
noncomputable abbrev ku(vs:List Value)(n:Nat):Obj:={cls:=.type "tuple",data:=.seq vs.toArray n}
noncomputable abbrev aM(vs:List Value)(n:Nat):Obj:={cls:=.type "list",data:=.seq vs.toArray n}
noncomputable abbrev ak(bs:List UInt8):Obj:={cls:=.type "bytearray",data:=.bytearray ⟨bs⟩ 0}
noncomputable def bS(o:Obj):Bool:=match o.cls,o.data with
 | .type n,.seq _ _=>n=="tuple"
 | .type n,.fields _=>n=="range"||n=="code"
 | _,_=>false
noncomputable def ImmLe(h h':Heap):Prop:=∀b o,h.get? b=some o->bS o=true->h'.get? b=some o
inductive TbAt (y:Y) (T:Addr):Prop
 | mk (o:Obj) (ts:Array Value) (w:y.own T) (e:y.h.get? T=some o) (c:o.cls=.type "traceback") (d:o.dict=none) (l:o.slots=#[]) (f:o.data=.fields ts) (z:4<=ts.size)
structure Yl (y y':Y):Prop where
 th:∀n a,y.θ n=some a->y'.θ n=some a
 imm:ImmLe y.h y'.h
 tb:∀T,TbAt y T->TbAt y' T
theorem Yl.refl(y:Y):Yl y y:=⟨λ_ _ e=>e,λ_ _ e _=>e,λ_ x=>x⟩
theorem Yl.trans{y y' y'':Y}(a:Yl y y')(b:Yl y' y''):Yl y y'':=⟨λn x e=>b.th n x (a.th n x e),λp o e i=>b.imm p o (a.imm p o e i) i,λT x=>b.tb T (a.tb T x)⟩
mutual
noncomputable def VR(y:Y):V->Value->Prop
 | .non,v=>v=.none
 | .bool b,v=>v=.bool b
 | .int i,v=>∃t,v=.int i t
 | .str cs,v=>∃t,v=.str ⟨cs.toArray⟩ t
 | .bytes bs,v=>∃t,v=.bytes ⟨bs⟩ t
 | .top a,v=>v=.ref a
 | .bi k,v=>v=.builtin (biN k)
 | .ty k,v=>v=.type (tyN k)
 | .rng lo hi,v=>∃a,v=.ref a/\∃t u w,IsRange y.h a lo hi 1 t u w
 | .ref n,v=>∃a,v=.ref a/\y.θ n=some a
 | .tup us,v=>∃a,v=.ref a/\∃vs n,y.h.get? a=some (ku vs n)/\VRs y us vs
noncomputable def VRs(y:Y):List V->List Value->Prop
 | [],vs=>vs=[]
 | u::us,vs=>∃v r,vs=v::r/\(∀y',Yl y y'->VR y' u v)/\VRs y us r
end
noncomputable def VRel(y:Y)(u:V)(v:Value):Prop:=∀y',Yl y y'->VR y' u v
noncomputable abbrev VsRel(y:Y):List V->List Value->Prop:=All2 (VRel y)
theorem VRel.mono{y y':Y}(m:Yl y y'){u:V}{v:Value}(x:VRel y u v):VRel y' u v:=λ_ m'=>x _ (m.trans m')
theorem VRel.now{y:Y}{u:V}{v:Value}(x:VRel y u v):VR y u v:=x y (.refl y)
theorem VsRel.mono{y y':Y}(m:Yl y y'){u:List V}{v:List Value}(x:VsRel y u v):VsRel y' u v:=All2.mono (λ_ _=>VRel.mono m) x
theorem VRs.to{y:Y}:∀{us:List V} {vs:List Value},VRs y us vs->VsRel y us vs
 | [],_,h=>by cases h;exact .nil
 | u::us,_,h=>by obtain⟨v,r,rfl,x,h⟩:=h;exact .cons x h.to
theorem VRs.of{y:Y}{us:List V}{vs:List Value}(h:VsRel y us vs):VRs y us vs:=h.rec rfl λx _ r=>⟨_,_,rfl,x,r⟩
structure Idle (h h':Heap):Prop where
 keep:∀b o,h.get? b=some o->h'.get? b=some o
 size:h.objs.size<=h'.objs.size
theorem Idle.refl(h:Heap):Idle h h:=⟨λ_ _ e=>e,qW _⟩
theorem Idle.push(h:Heap)(o:Obj):Idle h (h.push o):=⟨λ_ _ e=>qE _ e,Nat.le_of_lt (by rw[Heap.size_push];exact Nat.lt_succ_self _)⟩
noncomputable abbrev Y.to(y:Y)(h:Heap)(n:Nat):Y:=⟨y.θ,y.own,{y.s with heap:=h,toks:=n}⟩
theorem TbAt.to{y y':Y}{T:Addr}(x:TbAt y T)(mo:∀a,y.own a->y'.own a)(k:∀o,y.h.get? T=some o->o.cls=.type "traceback"->y'.h.get? T=some o):TbAt y' T:=let⟨o,ts,w,e,c,r,l,f,z⟩:=x;⟨o,ts,mo T w,k o e c,c,r,l,f,z⟩
theorem Yl.idle{y:Y}{h':Heap}{n:Nat}(i:Idle y.h h'):Yl y (y.to h' n):=⟨λ_ _ e=>e,λb o e _=>i.keep b o e,λT x=>x.to (λ_ z=>z) λo e _=>i.keep T o e⟩
noncomputable def cB:Option NameKind->Bool
 | some .cell=>true
 | some .free=>true
 | _=>false
structure FnOb (y:Y) (k:Nat) (cs:List (Nat×Hd)) (fd:FuncData):Prop where
 params:fd.params=(ck k).1
 body:fd.body=(ck k).2.1
 scope:fd.scope=(ck k).2.2
 globals:fd.globals=mainGlobals
 builtins:fd.builtins=builtinsNs
 dflt:fd.defaults=.none
 code:∃a oc vs tq,fd.code=.ref a/\y.h.get? a=some oc/\bS oc=true/\oc.data=.fields vs/\vs[1]?=some (.str fd.qualname tq)
 cells:∀i j,look i cs=some j->fd.scope.names.lookup (nm i)=some .free->∃a,fd.closure.lookup (nm i)=some a/\y.θ j=some a
noncomputable def fK(C a:Nat):Bool:=match look C T.cls with
 | some c=>c.attrs.elem a
 | .none=>false
noncomputable def eW(C:Nat):Bool:=match look C T.cls with
 | some c=>c.isExc
 | .none=>false
noncomputable def iv(C D:Nat):Bool:=match Nat.beq C D with
 | true=>true
 | false=>(match look C T.cls with|some c=>c.bases.any (Nat.beq D)|.none=>false)
inductive ExcOb (y:Y) (C:Addr) (ad:Option Addr) (b:Bool):Obj->Prop
 | mk (vs:Array Value) (t:Value) (z:6<=vs.size) (h2:vs[2]?=some .none) (h1:vs[1]?=some t) (hb:b=true->t≠.none) (ht:t=.none\/∃T,t=.ref T/\TbAt y T):ExcOb y C ad b {cls:=.ref C,dict:=ad,data:=.fields vs}
noncomputable def DictAt(y:Y):Option Hd->Option Addr->Prop
 | some d,some x=>y.θ d=some x
 | none,none=>True
 | _,_=>False
noncomputable def OptR(y:Y):Option V->Option Value->Prop
 | some u,some v=>VRel y u v
 | none,none=>True
 | _,_=>False
noncomputable abbrev NmR(y:Y)(p:Nat×V)(e:DictEntry):Prop:=(∃t,e.key=.str (nm p.1) t)/\VRel y p.2 e.val
noncomputable abbrev pD{κ κ':Type}(kf:κ->κ')(y:Y)(p:κ×V)(q:κ'×Value):Prop:=kf p.1=q.1/\VRel y p.2 q.2
noncomputable abbrev jD(cs:List Nat):Str:=⟨cs.toArray⟩
noncomputable def ke{κ:Type}[DecidableEq κ](knd:KeyKind prog w0 κ)(ob:Obj)(kvs:List (κ×Value)):Prop:=∀(h:Heap) a,h.get? a=some ob->h.DictOf knd a kvs
noncomputable def OR(y:Y)(ob:Obj):O->Prop
 | .list us=>∃vs n,ob=aM vs n/\VsRel y us vs
 | .dict es=>∃kvs,ke (intKind prog w0) ob kvs/\(∃a b,ob.data=.dict a b)/\All2 (pD id y) es kvs
 | .sdict es=>∃kvs,ke (strKind prog w0) ob kvs/\(∃a b,ob.data=.dict a b)/\All2 (pD jD y) es kvs
 | .ns fs=>∃ds n,ob=dictOf ds n/\All2 (NmR y) fs ds/\ds.length<=900
 | .inst C d=>∃ad,ob={cls:=.ref C,dict:=some ad,data:=.plain}/\y.θ d=some ad
 | .barr bs=>ob=ak bs
 | .cell v=>∃x,ob={cls:=.type "cell",data:=.cell x}/\OptR y v x
 | .fn k cs=>∃fd,ob.cls=.type "function"/\ob.data=.func fd/\FnOb y k cs fd
 | .exc C d=>∃ad,ExcOb y C ad false ob/\DictAt y d ad/\eW C=true
 | .hole=>False
 | .tab _=>False
inductive Tab (h:Heap) (k:Nat):Prop
 | mk (ps:Array Value) (e:h.get? gF=some (tabObj ps)) (t:TriplesOk ps.toList) (n:∀j,k<=j->codeAmong (cu j) ps.toList=none)
noncomputable def NR(h:Heap)(i:Nat):O->Prop
 | .hole=>True
 | .tab k=>i=0/\Tab h k
 | _=>False
inductive ObjAt (y:Y) (n:Hd) (o:O):Prop
 | ob (a:Addr) (ob:Obj) (e:y.θ n=some a) (g:y.h.get? a=some ob) (r:∀y',Yl y y'->OR y' ob o)
 | no (k:Nat) (e:y.θ n=none) (hn:n=.l k) (r:NR y.h k o)
structure Up (h:Heap):Prop where
 keep:∀b o,Bs.get? b=some o->h.get? b=some o
 size:Bs.objs.size<=h.objs.size
structure Rel (y:Y) (L:Hp):Prop where
 up:Up y.h
 fin:∃N,∀n,N<=n->y.θ (.s n)=none
 inj:∀n m a,y.θ n=some a->y.θ m=some a->n=m
 sub:∀n a,y.θ n=some a->y.own a
 new:∀a,y.own a->Bs.objs.size<=a
 lt:∀a,y.own a->a<y.h.objs.size
 keys:L.Pairwise λp q=>p.1≠q.1
 obj:∀n o,(n,o)∈L->ObjAt y n o
noncomputable def Exc(y:Y)(a C:Addr)(ad:Option Addr)(b:Bool):Prop:=∃ob,y.h.get? a=some ob/\ExcOb y C ad b ob
structure Mv (F:List Addr) (x:Option Addr) (y y':Y):Prop extends Yl y y' where
 os:y'.s.os=y.s.os
 gens:y'.s.gens=y.s.gens
 size:y.h.objs.size<=y'.h.objs.size
 mono:∀a,y.own a->y'.own a
 fresh:∀a,y'.own a->y.own a\/y.h.objs.size<=a
 exk:∀a C ad b,y.own a->Exc y a C ad b->∃ad',Exc y' a C ad' b
 keep:∀b o,Bs.objs.size<=b->y.h.get? b=some o->¬y.own b->b∉F->some b≠x->y'.h.get? b=some o
 slots:∀b∈F,some b≠x->¬y.own b->∀o,y.h.get? b=some o->∃sl,y'.h.get? b=some {o with slots:=sl}
namespace Mv
variable {F:List Addr} {x:Option Addr} {y y' y'':Y}
theorem refl(F:List Addr)(x:Option Addr)(y:Y):Mv F x y y:=⟨.refl y,rfl,rfl,qW _,λ_ z=>z,λ_ z=>.inl z,λ_ _ _ _ _ z=>⟨_,z⟩,λ_ _ _ e _ _ _=>e,λ_ _ _ _ o e=>⟨o.slots,e⟩⟩
theorem notown(m:Mv F x y y'){b:Addr}{o:Obj}(e:y.h.get? b=some o)(n:¬y.own b):¬y'.own b:=λq=>(m.fresh b q).elim n λz=>absurd (qZ e) (Nat.not_lt.mpr z)
theorem trans(a:Mv F x y y')(b:Mv F x y' y''):Mv F x y y'' :=
 ⟨a.toYl.trans b.toYl,b.os.trans a.os,b.gens.trans a.gens,qC a.size b.size,λp q=>b.mono p (a.mono p q),λp q=>(b.fresh p q).elim (a.fresh p) λz=>.inr (qC a.size z),λp C ad t oa q=>(a.exk p C ad t oa q).elim λ_ q=>b.exk p C _ t (a.mono p oa) q,λp o z e n f t=>b.keep p o z (a.keep p o z e n f t) (a.notown e n) f t,λp f t n o e=>(a.slots p f t n o e).elim λsl e'=>b.slots p f t (a.notown e n) {o with slots:=sl} e'⟩
theorem idle{h:Heap}(i:Idle y.h h)(n:Nat):Mv F x y (y.to h n) :=
 ⟨.idle i,rfl,rfl,i.size,λ_ z=>z,λ_ z=>.inl z,λa C ad b _ z=>z.elim λob z=>⟨ad,ob,i.keep _ _ z.1,let⟨vs,t,z,h2,h1,hb,ht⟩:=z.2;⟨vs,t,z,h2,h1,hb,ht.imp id λ⟨T,e,q⟩=>⟨T,e,(Yl.idle i).tb T q⟩⟩⟩,λ_ _ _ e _ _ _=>i.keep _ _ e,λ_ _ _ _ o e=>⟨o.slots,i.keep _ _ e⟩⟩
end Mv
theorem ExcOb.mono{y y':Y}(m:Yl y y'){C:Addr}{ad:Option Addr}{b:Bool}{ob:Obj}(x:ExcOb y C ad b ob):ExcOb y' C ad b ob:=let⟨vs,t,z,h2,h1,hb,ht⟩:=x;⟨vs,t,z,h2,h1,hb,ht.imp id λ⟨T,e,q⟩=>⟨T,e,m.tb T q⟩⟩
noncomputable def Chg(L:Hp)(n:Hd)(o x:O)(L':Hp):Prop:=∃l r,L=l++(n,o)::r/\L'=l++(n,x)::r
inductive Al (o:O) (L:Hp) (Q:Hd->Hp->Prop):Prop
 | sym (l r:Hp) (e:L=l++r) (q:∀n,Q (.s n) (l++(.s n,o)::r))
 | fix (k:Nat) {L':Hp} (c:Chg L (.l k) .hole o L') (q:Q (.l k) L')
theorem Al.sym0{o:O}{L:Hp}{Q:Hd->Hp->Prop}(q:∀n,Q (.s n) ((.s n,o)::L)):Al o L Q:=.sym [] L rfl q
end
section
theorem hV(P:Params):(HF P).get? 731=some (tabObj #[]):=by rfl'
theorem gJ:gF<Bs.objs.size:=Nat.lt_of_lt_of_eq (qZ (wit.keep _ _ (hV _))) (Heap.size_update ..).symm
theorem bs_tab:Bs.get? gF=none:=by
 have h:731<wit.h.objs.size:=qZ (wit.keep _ _ (hV _));show(match(wit.h.objs.modify 731 λ_=>{cls:=.none,data:=.freed})[731]? with|some ⟨_,_,.freed,_⟩=>none|o=>o)=none;refine(Array.getElem?_modify).symm▸?_;refine(if_pos rfl).symm▸?_;refine(Array.getElem?_eq_getElem h).symm▸?_;rfl
theorem iJ{a:Addr}{o:Obj}(h:a≠731)(e:(HF w0.params).get? a=some o):Bs.get? a=some o:=(Heap.get?_update_other _ _ (Ne.symm h)).trans (wit.keep a o e)
variable {y y':Y} {L L':Hp} {h h':Heap} {n:Nat} {F:List Addr} {x:Option Addr}
theorem c6{β:Type}(k j:Nat)(v:β)(l:List (Nat×β)):look j (put k v l)=match Nat.beq k j with|true=>some v|false=>look j l:=by
 induction l with
 | nil=>rfl
 | cons p r ih =>
  obtain⟨i,u⟩:=p;refine(?_:look j (match Nat.beq i k with|true=>(i,v)::r|false=>(i,u)::put k v r)=match Nat.beq k j with|true=>some v|false=>(match Nat.beq i j with|true=>some u|false=>look j r));cases q:Nat.beq i k with
  | true =>
   cases qH q;refine(?_:(match Nat.beq k j with|true=>some v|false=>look j r)=_);cases Nat.beq k j<;>rfl
  | false =>
   refine(?_:(match Nat.beq i j with|true=>some u|false=>look j (put k v r))=_);rw[ih];cases z:Nat.beq i j with
   | false=>rfl
   | true =>
    cases qH z;rw[show Nat.beq k j=false from Bool.eq_false_iff.mpr λe=>absurd (qH e▸q) (by rw[Nat.beq_refl];nofun)]
theorem Up.idle(U:Up h)(i:Idle h h'):Up h':=⟨λb o e=>i.keep _ _ (U.keep b o e),qC U.size i.size⟩
theorem Up.but(U:Up h){a:Addr}(sb:Heap.SameBut a h h')(ha:Bs.objs.size<=a):Up h':=⟨λb o e=>(sb.2 b (q_ (qL (qZ e) ha))).trans (U.keep b o e),qC U.size (qU sb.1.symm)⟩
structure Side (S:Addr->Prop) (h h':Heap):Prop where
 keep:∀b o,¬S b->h.get? b=some o->h'.get? b=some o
 size:h.objs.size<=h'.objs.size
 imm:∀b o,S b->h.get? b=some o->bS o=false
theorem Idle.side(i:Idle h h'){S:Addr->Prop}(hD:∀b,S b->h.objs.size<=b):Side S h h':=⟨λb o _ e=>i.keep b o e,i.size,λb o s e=>absurd (qZ e) (Nat.not_lt.mpr (hD b s))⟩
theorem Up.side(U:Up h){S:Addr->Prop}(hD:∀b,S b->Bs.objs.size<=b)(i:Side S h h'):Up h':=⟨λb o e=>i.keep b o (λs=>absurd (qZ e) (Nat.not_lt.mpr (hD b s))) (U.keep b o e),qC U.size i.size⟩
theorem Tab.same{k:Nat}(e:h'.get? gF=h.get? gF):Tab h k->Tab h' k:=λ⟨ps,a,b,d⟩=>⟨ps,e.trans a,b,d⟩
theorem Tab.idle(i:Idle h h'){k:Nat}:Tab h k->Tab h' k:=λ⟨ps,a,b,d⟩=>⟨ps,i.keep _ _ a,b,d⟩
theorem Tab.side{S:Addr->Prop}(hD:∀b,S b->Bs.objs.size<=b)(i:Side S h h'){k:Nat}:Tab h k->Tab h' k:=λ⟨ps,a,b,d⟩=>⟨ps,i.keep _ _ (λs=>absurd gJ (Nat.not_lt.mpr (hD _ s))) a,b,d⟩
theorem Tab.but{a:Addr}(sb:Heap.SameBut a h h')(ha:Bs.objs.size<=a){k:Nat}:Tab h k->Tab h' k:=Tab.same (sb.2 _ (q_ (qL gJ ha)))
theorem NR.mono{i:Nat}{o:O}(hT:i=0->∀k,Tab h k->Tab h' k)(r:NR h i o):NR h' i o:=by cases o with
 | hole=>exact r
 | tab k=>exact⟨r.1,hT r.1 k r.2⟩
 | _=>exact r.elim
def Ev(y:Y)(ob ob':Obj):Prop:=∀o y',Yl y y'->OR y' ob o->OR y' ob' o
theorem ObjAt.mono{n:Hd}{o:O}(m:Yl y y')(hn:∀k,n=.l k->y.θ n=none->y'.θ n=none)(hT:n=.l 0->∀k,Tab y.h k->Tab y'.h k)(ha:∀a ob,y.θ n=some a->y.h.get? a=some ob->∃ob',y'.h.get? a=some ob'/\Ev y' ob ob')(r:ObjAt y n o):ObjAt y' n o:=by
 cases r with
 | ob a ob e g r=>exact(ha a ob e g).elim λob' z=>.ob a ob' (m.th _ _ e) z.1 λy'' m'=>z.2 o y'' m' (r y'' (m.trans m'))
 | no k e hk r=>exact .no k (hn k hk e) hk (r.mono λz=>hT (hk.trans (qF Hd.l z)))
theorem ObjAt.keep{n:Hd}{o:O}(m:Yl y y')(hn:∀k,n=.l k->y.θ n=none->y'.θ n=none)(hT:n=.l 0->∀k,Tab y.h k->Tab y'.h k)(ha:∀a ob,y.θ n=some a->y.h.get? a=some ob->y'.h.get? a=some ob)(r:ObjAt y n o):ObjAt y' n o :=
 r.mono m hn hT λa ob e g=>⟨ob,ha a ob e g,λ_ _ _ z=>z⟩
theorem Rel.idle(R:Rel y L)(i:Idle y.h h')(n:Nat):Rel (y.to h' n) L :=
 ⟨R.up.idle i,R.fin,R.inj,R.sub,R.new,λa q=>qL (R.lt a q) i.size,R.keys,λn o m=>(R.obj n o m).keep (.idle i) (λ_ _ e=>e) (λ_ _=>Tab.idle i) λa ob _ g=>i.keep a ob g⟩
theorem Rel.turn(R:Rel y L){own':Addr->Prop}{s':Shared}(m:Yl y ⟨y.θ,own',s'⟩)(mo:∀a,y.own a->own' a)(fr':∀a,own' a->y.own a\/y.h.objs.size<=a)(lt':∀a,own' a->a<s'.heap.objs.size)(sz:y.h.objs.size<=s'.heap.objs.size)
  (kb:∀b,b<Bs.objs.size->s'.heap.get? b=y.h.get? b) (kd:∀b o,y.own b->y.h.get? b=some o->∃o',s'.heap.get? b=some o'/\Ev ⟨y.θ,own',s'⟩ o o'):Rel ⟨y.θ,own',s'⟩ L :=
 ⟨⟨λb o e=>(kb b (qZ e)).trans (R.up.keep b o e),qC R.up.size sz⟩,R.fin,R.inj,λn a e=>mo a (R.sub n a e),λa q=>(fr' a q).elim (R.new a) λz=>qC R.up.size z,lt',R.keys,λn o i=>(R.obj n o i).mono m (λ_ _ e=>e) (λ_ _=>Tab.same (kb _ gJ)) λa ob e=>kd a ob (R.sub n a e)⟩
theorem h_{l r:Hp}{n:Hd}{o:O}(k:(l++(n,o)::r).Pairwise λp q=>p.1≠q.1):(l++r).Pairwise (λp q=>p.1≠q.1)/\∀p∈l++r,p.1≠n:=by
 revert k;revert l r n o;refine @al4 _ _ _ _ zL zL zh zo ?P ((?f:∀a b c d,?P a b c d) _ _ _ _);intro l r n o k;rw[List.pairwise_append,List.pairwise_cons] at k;exact⟨List.pairwise_append.mpr ⟨k.1,k.2.1.2,λp mp q mq=>k.2.2 p mp q (.tail _ mq)⟩,λp m=>(List.mem_append.mp m).elim (λm=>k.2.2 p m _ (.head _)) λm=>(k.2.1.1 p m).symm⟩
theorem i8{l r:Hp}{n:Hd}{o:O}(k:(l++r).Pairwise λp q=>p.1≠q.1)(ne:∀p∈l++r,p.1≠n):(l++(n,o)::r).Pairwise λp q=>p.1≠q.1:=by
 rw[List.pairwise_append] at k;refine List.pairwise_append.mpr ⟨k.1,List.pairwise_cons.mpr ⟨λp m=>(ne p (qO _ m)).symm,k.2.1⟩,λp mp q mq=>?_⟩;rcases List.mem_cons.mp mq with e|mq
 .rw[e];exact ne p (List.mem_append_left _ mp)
 .exact k.2.2 p mp q mq
theorem jP{l r:Hp}{p q:Hd×O}(m:p∈l++q::r):p=q\/p∈l++r:=(List.mem_append.mp m).elim (λm=>.inr (List.mem_append_left _ m)) λm=>(List.mem_cons.mp m).imp id (qO _)
theorem jQ{l r:Hp}{p q:Hd×O}(m:p∈l++r):p∈l++q::r:=(List.mem_append.mp m).elim (List.mem_append_left _) λm=>qO _ (.tail _ m)
theorem Chg.mem{m:Hd}{o z:O}(ch:Chg L m o z L'):(m,o)∈L:=by obtain⟨l,r,rfl,_⟩:=ch;exact qO _ (.head _)
theorem Yl.but{a:Addr}{o:Obj}{t:Nat}(e:y.h.get? a=some o)(sb:Heap.SameBut a y.h h')(hi:bS o=false)(ht:∀vs,o.data≠.fields vs):Yl y (y.to h' t) :=
 have ne:∀{b p},y.h.get? b=some p->(bS p=true\/∃vs,p.data=.fields vs)->b≠a:=λe' q z=>by
  rw[z,e] at e';cases e';exact q.elim (λi=>by rw[hi] at i;cases i) λq=>q.elim ht
 ⟨λ_ _ e=>e,λb p e' i=>(sb.2 b (ne e' (.inl i))).trans e',λT z=>let⟨o,ts,w,e,c,d,l,f,z⟩:=z;⟨o,ts,w,(sb.2 T (ne e (.inr ⟨_,f⟩))).trans e,c,d,l,f,z⟩⟩
theorem Rel.upd(R:Rel y L){m:Hd}{a:Addr}{o z:O}{ob':Obj}{t:Nat}(ch:Chg L m o z L')(ea:y.θ m=some a)(sb:Heap.SameBut a y.h h')(yl:Yl y (y.to h' t))(g:h'.get? a=some ob')(hx:∀y',Yl (y.to h' t) y'->OR y' ob' z):Rel (y.to h' t) L':=by
 obtain⟨l,r,rfl,rfl⟩:=ch;have kk:=h_ R.keys;have na:=R.new a (R.sub _ _ ea);refine⟨R.up.but sb na,R.fin,R.inj,R.sub,R.new,λb q=>qL (R.lt b q) (qU sb.1.symm),i8 kk.1 kk.2,λp w hm=>?_⟩;rcases jP hm with e|hm
 .cases e;exact .ob a ob' ea g hx
 .exact(R.obj p w (jQ hm)).keep yl (λ_ _ e=>e) (λ_ _=>Tab.but sb na) λb o' eb e=>(sb.2 b λz=>kk.2 _ hm (R.inj _ _ _ eb (z▸ea))).trans e
open Classical in
def Y.plus(y:Y)(n:Hd)(D:Addr)(h:Heap)(t:Nat):Y:=⟨λm=>if m=n then some D else y.θ m,λa=>y.own a\/a=D,{y.s with heap:=h,toks:=t}⟩
variable {m:Hd} {D:Addr} {t:Nat}
theorem bX:(y.plus m D h t).θ m=some D:=if_pos rfl
theorem cj{j:Hd}(z:j≠m):(y.plus m D h t).θ j=y.θ j:=if_neg z
theorem dR{j:Hd}(e:y.θ m=none){a:Addr}(q:y.θ j=some a):(y.plus m D h t).θ j=some a:=(cj λz=>by rw[z,e] at q;cases q).trans q
theorem TbAt.own{T:Addr}(x:TbAt y T):y.own T:=by cases x with|mk _ _ w=>exact w
theorem Yl.side{S:Addr->Prop}{θ':Hd->Option Addr}{own':Addr->Prop}(no:∀b,S b->¬y.own b)(i:Side S y.h h')(th:∀j a,y.θ j=some a->θ' j=some a)(mo:∀a,y.own a->own' a):Yl y ⟨θ',own',{y.s with heap:=h',toks:=t}⟩ :=
 ⟨th,λb o e k=>i.keep b o (λz=>by rw[i.imm b o z e] at k;cases k) e,λT x=>x.to mo λo e _=>i.keep T o (λz=>no T z x.own) e⟩
theorem Yl.plus{S:Addr->Prop}(no:∀b,S b->¬y.own b)(e:y.θ m=none)(i:Side S y.h h'):Yl y (y.plus m D h' t):=.side no i (λj a q=>dR (h:=h') (t:=t) e q) λ_=>.inl
theorem Rel.side{S:Addr->Prop}(R:Rel y L)(hB:∀b,S b->Bs.objs.size<=b)(no:∀b,S b->¬y.own b)(i:Side S y.h h')(n:Nat):Rel (y.to h' n) L :=
 ⟨R.up.side hB i,R.fin,R.inj,R.sub,R.new,λa q=>qL (R.lt a q) i.size,R.keys,λn o m=>(R.obj n o m).keep (.side no i (λ_ _ e=>e) λ_ e=>e) (λ_ _ e=>e) (λ_ _=>Tab.side hB i) λa ob e g=>i.keep a ob (λz=>no _ z (R.sub _ _ e)) g⟩
theorem Mv.past{S:Addr->Prop}{y₀:Y}{θ':Hd->Option Addr}{own':Addr->Prop}(a:Mv F x y₀ y)(hD:∀b,S b->y₀.h.objs.size<=b)(no:∀b,S b->¬y.own b)(i:Side S y.h h')(th:∀j a,y.θ j=some a->θ' j=some a)(mo:∀a,y.own a->own' a)(fr:∀a,own' a->y.own a\/S a):
  Mv F x y₀ ⟨θ',own',{y.s with heap:=h',toks:=t}⟩ :=
 have yl:=Yl.side (t:=t) no i th mo;have ne:∀{p o},y₀.h.get? p=some o->¬S p:=λe z=>absurd (qZ e) (Nat.not_lt.mpr (hD _ z))
 ⟨a.toYl.trans yl,a.os,a.gens,qC a.size i.size,λp q=>mo p (a.mono p q),λp q=>(fr p q).elim (a.fresh p) λz=>.inr (hD _ z),λp C ad b oa q=>(a.exk p C ad b oa q).elim λad' ⟨ob,e,q⟩=>⟨ad',ob,i.keep p ob (λz=>no _ z (a.mono p oa)) e,q.mono yl⟩,λp o z e n f t=>i.keep p o (ne e) (a.keep p o z e n f t),λp f t n o e=>(a.slots p f t n o e).elim λsl e'=>⟨sl,i.keep p _ (ne e) e'⟩⟩
theorem Rel.plusG(R:Rel y L){z:O}{ob:Obj}{l r:Hp}(up:Up h')(sz:y.h.objs.size<=h'.objs.size)(no:¬y.own D)(hB:Bs.objs.size<=D)(g:h'.get? D=some ob)(e:y.θ m=none)(ne:∀p∈l++r,p.1≠m)(kk:(l++r).Pairwise λp q=>p.1≠q.1)
  (ho:∀p w,(p,w)∈l++r->ObjAt (y.plus m D h' t) p w) (hx:∀y',Yl (y.plus m D h' t) y'->OR y' ob z):Rel (y.plus m D h' t) (l++(m,z)::r) where
 up:=up
 fin:=by
  obtain⟨N,hN⟩:=R.fin;cases m with
  | l k=>exact⟨N,λn hn=>(cj (m:=.l k) (j:=.s n) nofun).trans (hN n hn)⟩
  | s k=>exact⟨N+(k+1),λn hn=>(cj λz=>by cases z;exact absurd (qC (Nat.le_add_left _ _) hn) (Nat.not_succ_le_self k)).trans (hN n (qC (qI _ _) hn))⟩
 inj:=λp q a hp hq=>by
  by_cases h1:p=m<;>by_cases h2:q=m
  .exact h1.trans h2.symm
  .rw[h1,bX] at hp;cases hp;rw[cj h2] at hq;exact absurd (R.sub _ _ hq) no
  .rw[h2,bX] at hq;cases hq;rw[cj h1] at hp;exact absurd (R.sub _ _ hp) no
  .rw[cj h1] at hp;rw[cj h2] at hq;exact R.inj _ _ _ hp hq
 sub:=λp a hp=>by
  by_cases h1:p=m
  .rw[h1,bX] at hp;cases hp;exact .inr rfl
  .rw[cj h1] at hp;exact .inl (R.sub _ _ hp)
 new:=λa q=>q.elim (R.new a) λz=>z▸hB
 lt:=λa q=>q.elim (λz=>qL (R.lt a z) sz) λz=>by rw[z];exact qZ g
 keys:=i8 kk ne
 obj:=λp w hm=>(jP hm).elim (λq=>by injection q with a b;rw[a,b];exact .ob D ob bX g hx) (ho p w)
theorem fresh_of(R:Rel y L):∃n,y.θ (.s n)=none/\∀p∈L,p.1≠.s n:=by
 obtain⟨N,hN⟩:=R.fin;refine⟨N,hN N (qW _),λp m z=>?_⟩;have r:=R.obj p.1 p.2 m;have r:=(z)▸r;cases r with
 | ob a ob e=>rw[hN N (qW _)] at e;cases e
 | no k e hk=>cases hk
theorem Rel.made{S:Addr->Prop}(R:Rel y L){z:O}{ob:Obj}{Q:Hd->Hp->Prop}(hS:S D)(hB:∀b,S b->Bs.objs.size<=b)(no:∀b,S b->¬y.own b)(i:Side S y.h h')(g:h'.get? D=some ob)(q:Al z L Q)(hx:∀m,y.θ m=none->∀y',Yl (y.plus m D h' t) y'->OR y' ob z):
  ∃m L',y.θ m=none/\Rel (y.plus m D h' t) L'/\Q m L':=by
 have go:∀(m:Hd) (l r:Hp),y.θ m=none->(∀p∈l++r,p.1≠m)->(∀p∈l++r,p∈L)->((l++r).Pairwise λp q=>p.1≠q.1)->Rel (y.plus m D h' t) (l++(m,z)::r):=λm l r e ne hL kk =>
  R.plusG (R.up.side hB i) i.size (no D hS) (hB D hS) g e ne kk (λp w hm=>(R.obj p w (hL _ hm)).keep (.plus no e i) (λ_ _ z=>(cj (ne _ hm)).trans z) (λ_ _=>Tab.side hB i) λa ob e g=>i.keep a ob (λz=>no _ z (R.sub _ _ e)) g) (hx m e)
 cases q with
 | sym l r e q =>
  subst e;refine nn λno=>?_;obtain⟨n,e,ne⟩:=fresh_of R;refine no ?_;exact⟨_,_,e,go _ l r e ne (λ_ m=>m) R.keys,q n⟩
 | fix k ch q =>
  refine nn λno=>?_;obtain⟨l,r,rfl,rfl⟩:=ch;refine no ?_;have kk:=h_ R.keys;have e:y.θ (.l k)=none:=by
   cases R.obj (.l k) .hole (qO _ (.head _)) with
   | ob a ob e g r=>exact(r y (.refl y)).elim
   | no _ e=>exact e
  exact⟨_,_,e,go _ l r e kk.2 (λp m=>jQ m) kk.1,q⟩
end
section
structure G where
 d:Nat
 A:Around
 l:List Env
 env:Env
 hd:Bool
theorem zG:Nonempty G:=⟨0,{},[],default,false⟩
noncomputable abbrev dH(l:List Env):List Addr:=l.filterMap (·.frame)
inductive FrOk (y:Y) (e:Env):Prop
 | mk (L:Addr) (o:Obj) (es:Array DictEntry) (n:Nat) (k:e.scope.kind≠.module) (f:e.frame=some L) (g:y.h.get? L=some o) (d:o.data=.dict es n) (w:¬y.own L) (b:Bs.objs.size<=L)
inductive HnOk (y:Y):Value->Prop
 | mk (a C:Addr) (ad:Option Addr) (w:y.own a) (x:Exc y a C ad true):HnOk y (.ref a)
structure Stk (A:Around) (l:List Env) (y:Y):Prop where
 fr:∀e∈l,FrOk y e
 hn:∀v,A.handled=some v->HnOk y v
structure FR (env:Env) (fr:Fr) (y:Y):Prop where
 loc:∃m,y.h.Ns env.locals m/\∀i v,look i fr.loc=some v->∃x,m (nm i)=some x/\VRel y v x
 cel:∀(i:Nat) (k:Hd),look i fr.cel=some k->cB (env.kindOf (nm i))=true->∃a:Addr,env.cells.lookup (nm i)=some a/\y.θ k=some a
 fresh:¬y.own env.locals
 above:Bs.objs.size<=env.locals
structure At (g:G):Prop where
 frames:g.A.frames=some g.l
 mine:∃e r,g.l=e::r/\e.frame=g.env.frame
 hd:g.hd=false->g.A.handled=none
 depth:g.A.depth+(8*g.d+60)<=recursionLimit
 units:g.A.units+(60*g.d+300)<=cLine
 fn:g.env.scope.kind=.function
 glb:g.env.globals=mainGlobals
 blt:g.env.builtins=builtinsNs
structure Now (g:G) (fr:Fr) (L:Hp) (y:Y):Prop where
 at':At g
 rel:Rel y L
 fr':FR g.env fr y
 stk:Stk g.A g.l y
noncomputable def Wn(g:G)(fr:Fr)(L:Hp):Type:={y:Y // Now g fr L y}
noncomputable def Wn.y{g:G}{fr:Fr}{L:Hp}(w:Wn g fr L):Y:=w.1
theorem Wn.now{g:G}{fr:Fr}{L:Hp}(w:Wn g fr L):Now g fr L w.y:=w.2
noncomputable abbrev Ab(α:Type):=Fr->Hp->(α->Fr->Hp->Prop)->(Hd->Fr->Hp->Prop)->Prop
noncomputable def Ab.bind{α β:Type}(m:Ab α)(f:α->Ab β):Ab β:=λfr L Q E=>m fr L (λa fr L=>f a fr L Q E) E
noncomputable def Ab.no{α:Type}:Ab α:=λ_ _ _ _=>False
noncomputable def Ab.ret{α:Type}(a:α):Ab α:=λfr L Q _=>Q a fr L
section
variable {g:G} {fr fr':Fr} {L L':Hp} {y y':Y}
noncomputable def Le(w:Wn g fr L)(w':Wn g fr' L'):Prop:=Mv (dH g.l) (some g.env.locals) w.y w'.y
theorem Mv.weak{F:List Addr}{x:Option Addr}(m:Mv F none y y'):Mv F x y y':={m with keep:=λb o z e n f _=>m.keep b o z e n f nofun,slots:=λb f _=>m.slots b f nofun}
theorem jH{h h':Heap}{a:Addr}{m:Str->Option Value}(n:h.Ns a m)(k:∀o,h.get? a=some o->∃sl,h'.get? a=some {o with slots:=sl}):h'.Ns a m:=by
 obtain⟨o,es,ep,e,d,r⟩:=n;obtain⟨sl,e'⟩:=k o e;exact⟨_,es,ep,e',d,r⟩
structure Kp (g:G) (y y':Y):Prop where
 yl:Yl y y'
 mono:∀a,y.own a->y'.own a
 exk:∀a C ad b,y.own a->Exc y a C ad b->∃ad',Exc y' a C ad' b
 notown:∀b o,y.h.get? b=some o->¬y.own b->(b=g.env.locals\/b∈dH g.l)->¬y'.own b
 slots:∀b o,y.h.get? b=some o->¬y.own b->Bs.objs.size<=b->(b=g.env.locals\/b∈dH g.l)->∃sl,y'.h.get? b=some {o with slots:=sl}
theorem Mv.kp(m:Mv (dH g.l) none y y'):Kp g y y':=⟨m.toYl,m.mono,m.exk,λb o e n _=>m.notown e n,λb o e n z _=>(Classical.em (b∈dH g.l)).elim (λh=>m.slots b h nofun n o e) λh=>⟨o.slots,m.keep b o z e n h nofun⟩⟩
theorem Stk.step{A:Around}{l:List Env}(s:Stk A l y)(mo:∀a,y.own a->y'.own a)(ex:∀a C ad b,y.own a->Exc y a C ad b->∃ad',Exc y' a C ad' b)(hs:∀b o es n,b∈dH l->y.h.get? b=some o->o.data=.dict es n->¬y.own b->Bs.objs.size<=b->¬y'.own b/\∃o' es' n',y'.h.get? b=some o'/\o'.data=.dict es' n'):Stk A l y' :=
 ⟨λe he=>by
  obtain⟨L,o,es,n,k,q,e',d,w,b⟩:=s.fr e he;obtain⟨w',o',es',n',e'',d'⟩:=hs L o es n (List.mem_filterMap.mpr ⟨e,he,q⟩) e' d w b;exact⟨L,o',es',n',k,q,e'',d',w',b⟩,λv hv=>by
  obtain⟨a,C,ad,w,x⟩:=s.hn v hv;obtain⟨ad',x'⟩:=ex a C ad true w x;exact⟨a,C,ad',mo a w,x'⟩⟩
theorem Now.go(N:Now g fr L y)(m:Kp g y y')(R:Rel y' L'):Now g fr L' y' where
 at':=N.at'
 rel:=R
 fr':=by
  obtain⟨⟨w,a,b⟩,c,f,z⟩:=N.fr';exact⟨⟨w,jH a λo e=>m.slots _ o e f z (.inl rfl),λi v e=>(b i v e).elim λx q=>⟨x,q.1,q.2.mono m.yl⟩⟩,λi j e q=>(c i j e q).elim λa q=>⟨a,q.1,m.yl.th _ _ q.2⟩,a.elim λo ⟨_,_,e,_⟩=>m.notown _ o e f (.inl rfl),z⟩
 stk:=N.stk.step m.mono m.exk λb o es n hm e d w z=>⟨m.notown b o e w (.inr hm),(m.slots b o e w z (.inr hm)).elim λsl e'=>⟨_,es,n,e',d⟩⟩
theorem Now.step(N:Now g fr L y)(m:Mv (dH g.l) none y y')(R:Rel y' L'):Now g fr L' y':=N.go m.kp R
theorem Now.old(N:Now g fr L y){b:Addr}(h:b=g.env.locals\/b∈dH g.l):b<y.h.objs.size:=by
 rcases h with h|h
 .refine nn λno=>?_;obtain⟨m,⟨o,_,_,e,_⟩,_⟩:=N.fr'.loc;refine no ?_;exact h▸qZ e
 .refine nn λno=>?_;obtain⟨e,he,q⟩:=List.mem_filterMap.mp h;refine no ?_;cases N.stk.fr e he with
  | mk L o es n k q' e'=>cases q.symm.trans q';exact qZ e'
theorem Now.idle{h':Heap}(N:Now g fr L y)(i:Idle y.h h')(n:Nat):Now g fr L (y.to h' n):=N.step (.idle i n) (N.rel.idle i n)
theorem Wn.room(w:Wn g fr L):g.A.depth+20<=recursionLimit/\g.A.units+200<=cLine :=
 ⟨qC (qN (qC (by decide) (Nat.le_add_left ..)) _) w.now.at'.depth,qC (qN (qC (by decide) (Nat.le_add_left ..)) _) w.now.at'.units⟩
noncomputable def ExOf(y:Y)(n:Hd)(e:Addr):Prop:=y.θ n=some e/\∃C ad,Exc y e C ad false
end
structure FzP {α β:Type} (rel:Y->α->β->Prop) {g:G} {fr:Fr} {L:Hp} (w:Wn g fr L) (Q:α->Fr->Hp->Prop) (E:Hd->Fr->Hp->Prop) (P:β->Shared->Prop) (X:Value->Shared->Prop):Prop where
 ok:∀{fr' L'} (w':Wn g fr' L') a b,Le w w'->rel w'.y a b->Q a fr' L'->P b w'.y.s
 ex:∀{fr' L'} (w':Wn g fr' L') n e,Le w w'->ExOf w'.y n e->E n fr' L'->X (.ref e) w'.y.s
noncomputable def Fz{α β:Type}(rel:Y->α->β->Prop){g:G}{fr:Fr}{L:Hp}(w:Wn g fr L)(Q:α->Fr->Hp->Prop)(E:Hd->Fr->Hp->Prop):Type:={p:(β->Shared->Prop)×(Value->Shared->Prop) // FzP rel w Q E p.1 p.2}
section
variable {α β:Type} {rel:Y->α->β->Prop} {g:G} {fr:Fr} {L:Hp} {w:Wn g fr L} {Q:α->Fr->Hp->Prop} {E:Hd->Fr->Hp->Prop}
noncomputable def Fz.P(z:Fz rel w Q E):β->Shared->Prop:=z.1.1
noncomputable def Fz.X(z:Fz rel w Q E):Value->Shared->Prop:=z.1.2
noncomputable def Fz.mk(P:β->Shared->Prop)(X:Value->Shared->Prop)(h:FzP rel w Q E P X):Fz rel w Q E:=⟨(P,X),h⟩
theorem Fz.ok(z:Fz rel w Q E){fr' L'}(w':Wn g fr' L')(a b)(l:Le w w')(r:rel w'.y a b)(q:Q a fr' L'):z.P b w'.y.s:=z.2.ok w' a b l r q
theorem Fz.ex(z:Fz rel w Q E){fr' L'}(w':Wn g fr' L')(n e)(l:Le w w')(x:ExOf w'.y n e)(q:E n fr' L'):z.X (.ref e) w'.y.s:=z.2.ex w' n e l x q
end
noncomputable def R{α β:Type}(rel:Y->α->β->Prop){g:G}{fr:Fr}{L:Hp}(w:Wn g fr L)(t:Sem β)(m:Ab α):Prop:=∀Q E (z:Fz rel w Q E),m fr L Q E->wpAny M g.A t z.P z.X w.y.s
section
variable {α β γ δ:Type} {rel:Y->α->β->Prop} {rel':Y->γ->δ->Prop} {g:G} {fr fr':Fr} {L L':Hp} {w:Wn g fr L} {w':Wn g fr' L'} {Q:α->Fr->Hp->Prop} {E:Hd->Fr->Hp->Prop} {t t':Sem β} {m:Ab α}
noncomputable def Fz.mv(z:Fz rel w Q E)(l:Le w w'):Fz rel w' Q E:=.mk z.P z.X ⟨λw'' a b l'=>z.ok w'' a b (l.trans l'),λw'' n e l'=>z.ex w'' n e (l.trans l')⟩
theorem Fz.now(z:Fz rel w Q E){a:α}{b:β}(r:rel w.y a b)(q:Q a fr L):z.P b w.y.s:=z.ok w a b (Mv.refl ..) r q
theorem Fz.idle(z:Fz rel w Q E){h':Heap}{n:Nat}(i:Idle w.y.h h'){a:α}{b:β}(r:rel (w.y.to h' n) a b)(q:Q a fr L):z.P b {w.y.s with heap:=h',toks:=n}:=z.ok (fr':=fr) (L':=L) ⟨w.y.to h' n,w.now.idle i n⟩ a b (Mv.idle i n) r q
theorem Fz.toks(z:Fz rel w Q E){n:Nat}{a:α}{b:β}(r:rel (w.y.to w.y.h n) a b)(q:Q a fr L):z.P b {w.y.s with toks:=n}:=z.idle (.refl _) r q
theorem R.no:R rel w t .no:=λ_ _ _ q=>q.elim
theorem R.of(h:R rel w t' m)(f:∀{P X},wpAny M g.A t' P X w.y.s->wpAny M g.A t P X w.y.s):R rel w t m:=λQ E z q=>f (h Q E z q)
theorem R.bind{f:β->Sem δ}{n:α->Ab γ}(h:R rel w t m)(k:∀{fr' L'} (w':Wn g fr' L') a b,Le w w'->rel w'.y a b->R rel' w' (f b) (n a)):R rel' w (t>>=f) (m.bind n):=λQ E z q =>
 a0 (h _ _ (.mk (λb s=>wpAny M g.A (f b) z.P z.X s) z.X ⟨λw' a b l r q=>k w' a b l r Q E (z.mv l) q,z.ex⟩) q)
theorem R.hold{vs:List Value}(h:R rel w t m):R rel w (holding vs t) m:=λQ E z q=>ac (h Q E z q)
theorem R.oper{rel:Y->α->Value->Prop}{t:Sem Value}{vs:List Value}(h:R rel w t m):R rel w (operate vs t) m:=λQ E z q=>c9 (h Q E z q)
theorem R.stand{p:Pos}(h:R rel w t m):R rel w (standAt p>>=λ_=>t) m:=λQ E z q=>a0 (aj (h Q E z q))
theorem R.pure{a:α}{b:β}(r:rel w.y a b):R rel w (Pure.pure b) (.ret a):=λ_ _ z q=>a7 (z.now r q)
end
section
variable {g:G} {fr fr':Fr} {L L':Hp} {w:Wn g fr L} {Q:V->Fr->Hp->Prop} {E:Hd->Fr->Hp->Prop}
theorem Wn.kp{y₀:Wn g fr' L'}{S:Addr->Prop}{h':Heap}{t:Nat}{θ':Hd->Option Addr}{own':Addr->Prop}(hD:∀b,S b->y₀.y.h.objs.size<=b)(no:∀b,S b->¬w.y.own b)(i:Side S w.y.h h')(th:∀j a,w.y.θ j=some a->θ' j=some a)(mo:∀a,w.y.own a->own' a)(fr:∀a,own' a->w.y.own a\/S a):
  Kp g w.y ⟨θ',own',{w.y.s with heap:=h',toks:=t}⟩ :=
 have yl:=Yl.side (t:=t) no i th mo;have ne:∀{b},(b=g.env.locals\/b∈dH g.l)->¬S b:=λh z=>absurd (y₀.now.old h) (Nat.not_lt.mpr (hD _ z))
 ⟨yl,mo,λp C ad b oa ⟨ob,e,q⟩=>⟨ad,ob,i.keep p ob (λz=>no _ z oa) e,q.mono yl⟩,λb o e n h q=>(fr b q).elim n (ne h),λb o e n z h=>⟨o.slots,i.keep b o (ne h) e⟩⟩
theorem Wn.side{S:Addr->Prop}(y₀:Wn g fr' L')(l:Le y₀ w){h':Heap}(t:Nat)(hD:∀b,S b->y₀.y.h.objs.size<=b)(no:∀b,S b->¬w.y.own b)(i:Side S w.y.h h'):∃w':Wn g fr L,w'.y=w.y.to h' t/\Le y₀ w' :=
 ⟨⟨_,w.now.go (Wn.kp (y₀:=y₀) (t:=t) hD no i (λ_ _ e=>e) (λ_ e=>e) λ_=>.inl) (w.now.rel.side (λb s=>qC y₀.now.rel.up.size (hD b s)) no i t)⟩,rfl,Mv.past l hD no i (λ_ _ e=>e) (λ_ e=>e) λ_=>.inl⟩
theorem Wn.take{S:Addr->Prop}{w:Wn g fr' L'}(w':Wn g fr L)(l:Le w w'){h':Heap}(n:Nat){D:Addr}(hS:S D)(hD:∀b,S b->w.y.h.objs.size<=b)(no:∀b,S b->¬w'.y.own b)(i:Side S w'.y.h h'){x:O}{ob:Obj}{K:Hd->Hp->Prop}(e:h'.get? D=some ob)(q:Al x L K)
  (hx:∀m,w'.y.θ m=none->∀y',Yl (w'.y.plus m D h' n) y'->OR y' ob x):∃m rH,∃ro:Wn g fr rH,ro.y=w'.y.plus m D h' n/\Le w ro/\w'.y.θ m=none/\K m rH:=by
 obtain⟨m,rH,e',R,q⟩:=w'.now.rel.made (t:=n) hS (λb s=>qC w.now.rel.up.size (hD b s)) no i e q hx;have th:=λj a (q:w'.y.θ j=some a)=>dR (D:=D) (h:=h') (t:=n) e' q;have fr:∀a,(w'.y.own a\/a=D)->w'.y.own a\/S a:=λa q=>q.elim .inl λ(z:a=D)=>.inr (z▸hS);exact⟨m,rH,⟨w'.y.plus m D h' n,w'.now.go (Wn.kp hD no i th (λ_=>.inl) fr) R⟩,rfl,Mv.past l hD no i th (λ_=>.inl) fr,e',q⟩
theorem Wn.nown(w:Wn g fr L):∀b,b=w.y.h.objs.size->¬w.y.own b:=λb e z=>absurd (w.now.rel.lt _ z) (Nat.not_lt.mpr (qU e.symm))
theorem Wn.made(w:Wn g fr L){h':Heap}(n:Nat)(i:Idle w.y.h h'){D:Addr}{x:O}{ob:Obj}{K:Hd->Hp->Prop}(hD:w.y.h.objs.size<=D)(e:h'.get? D=some ob)(q:Al x L K)
  (hx:∀m,w.y.θ m=none->∀y',Yl (w.y.plus m D h' n) y'->OR y' ob x):∃m rH,∃ro:Wn g fr rH,ro.y=w.y.plus m D h' n/\Le w ro/\w.y.θ m=none/\K m rH :=
 Wn.take (S:=(·=D)) (w:=w) w (Mv.refl ..) n rfl (λ_ e=>e▸hD) (λ_ e z=>absurd (w.now.rel.lt _ z) (Nat.not_lt.mpr (e▸hD))) (i.side λ_ e=>e▸hD) e q hx
theorem Fz.take{S:Addr->Prop}{w:Wn g fr' L'}(z:Fz VRel w Q E)(w':Wn g fr L)(l:Le w w'){h':Heap}{n:Nat}{D:Addr}(hS:S D)(hD:∀b,S b->w.y.h.objs.size<=b)(no:∀b,S b->¬w'.y.own b)(i:Side S w'.y.h h'){x:O}{ob:Obj}(e:h'.get? D=some ob)(q:Al x L λm L=>Q (.ref m) fr L)
  (hx:∀m,w'.y.θ m=none->∀y',Yl (w'.y.plus m D h' n) y'->OR y' ob x):z.P (.ref D) {w'.y.s with heap:=h',toks:=n}:=by
 obtain⟨m,rH,ro,rN,rA,_,q⟩:=Wn.take w' l n hS hD no i e q hx;have:=z.ok ro (.ref m) (.ref D) rA (by rw[rN];exact λy' k=>⟨D,rfl,k.th _ _ bX⟩) q;rw[rN] at this;exact this
theorem Fz.made(z:Fz VRel w Q E){h':Heap}{n:Nat}(i:Idle w.y.h h'){D:Addr}{x:O}{ob:Obj}(hD:w.y.h.objs.size<=D)(e:h'.get? D=some ob)(q:Al x L λm L=>Q (.ref m) fr L)
  (hx:∀m,w.y.θ m=none->∀y',Yl (w.y.plus m D h' n) y'->OR y' ob x):z.P (.ref D) {w.y.s with heap:=h',toks:=n} :=
 z.take (S:=(·=D)) w (Mv.refl ..) rfl (λ_ e=>e▸hD) (λ_ e z=>absurd (w.now.rel.lt _ z) (Nat.not_lt.mpr (e▸hD))) (i.side λ_ e=>e▸hD) e q hx
theorem Fz.push(z:Fz VRel w Q E){n:Nat}{x:O}{ob:Obj}(hf:ob.isFreed=false)(q:Al x L λm L=>Q (.ref m) fr L)(hx:∀m,w.y.θ m=none->∀y',Yl (w.y.plus m w.y.h.objs.size (w.y.h.push ob) n) y'->OR y' ob x):
  z.P (.ref w.y.h.objs.size) {w.y.s with heap:=w.y.h.push ob,toks:=n}:=z.made (.push _ ob) (qW _) (qK _ hf) q hx
theorem Fz.upd{α β:Type}{rel:Y->α->β->Prop}{Q:α->Fr->Hp->Prop}(z:Fz rel w Q E){m:Hd}{a:Addr}{o x:O}{ob ob':Obj}{h':Heap}{t:Nat}(ch:Chg L m o x L')(ea:w.y.θ m=some a)(eo:w.y.h.get? a=some ob)(sb:Heap.SameBut a w.y.h h')(hi:bS ob=false)(ht:∀vs,ob.data≠.fields vs)
  (e':h'.get? a=some ob') (hx:∀y',Yl (w.y.to h' t) y'->OR y' ob' x) {u:α} {v:β} (r:rel (w.y.to h' t) u v) (q:Q u fr L'):z.P v {w.y.s with heap:=h',toks:=t}:=by
 have oa:=w.now.rel.sub _ _ ea;have yl:Yl w.y (w.y.to h' t):=.but eo sb hi ht;have mv:Mv (dH g.l) none w.y (w.y.to h' t):=⟨yl,rfl,rfl,qU sb.1.symm,λ_ z=>z,λ_ z=>.inl z,λb C ad q _ z=>z.elim λo z=>⟨ad,o,(sb.2 b λq=>by
   rw[q,eo] at z;cases z.1;cases z.2;exact ht _ rfl).trans z.1,z.2.mono yl⟩,λb o _ e n _ _=>(sb.2 b λz=>n (z▸oa)).trans e,λb _ _ n o e=>⟨o.slots,(sb.2 b λz=>n (z▸oa)).trans e⟩⟩
 exact z.ok (L':=L') ⟨_,w.now.step mv (w.now.rel.upd ch ea sb yl e' hx)⟩ u v mv.weak r q
end
end
noncomputable def Op1{α β:Type}(rel:Y->α->β->Prop)(t:Value->Sem β)(a:V):Ab α:=λfr L Q E=>∀⦃g⦄ (w:Wn g fr L) {u},VRel w.y a u->∀z:Fz rel w Q E,wpAny M g.A (t u) z.P z.X w.y.s
noncomputable def Op2{α β:Type}(rel:Y->α->β->Prop)(t:Value->Value->Sem β)(a b:V):Ab α:=λfr L Q E=>∀⦃g⦄ (w:Wn g fr L) {u v},VRel w.y a u->VRel w.y b v->∀z:Fz rel w Q E,wpAny M g.A (t u v) z.P z.X w.y.s
noncomputable abbrev Br(_:Y)(a b:Bool):Prop:=a=b
noncomputable abbrev Bv(_:Y)(a:Bool)(v:Value):Prop:=v=.bool a
noncomputable abbrev Ur(_:Y)(_ _:Unit):Prop:=True
noncomputable def flrel(y:Y):Fl->Flow->Prop
 | .next,f=>f=.next
 | .ret v,f=>∃x,f=.ret x/\VRel y v x
noncomputable abbrev HB(op:Op):V->V->Ab V:=Op2 VRel (binaryOp (opE op))
noncomputable abbrev HC(o:Cm):V->V->Ab Bool:=Op2 Bv (compareOp (iB o))
noncomputable abbrev HTr:V->Ab Bool:=Op1 Br truthy
noncomputable abbrev HA(v:V)(a:Nat):Ab V:=Op1 VRel (λu=>getAttr u (nm a) true) v
noncomputable abbrev UA(v:V)(a:Nat)(x:V):Ab Unit:=Op2 Ur (λu x=>setAttr u (nm a) x) v x
noncomputable def k9(A:Around)(o i:Value)(P X:Value->Shared->Prop)(s:Shared):Prop:=∃T id,s.TypeIs o T/\typeLookup (.type T) "__getitem__"=pure (some (.builtin id))/\wpAny M A (getItem o i) P X s
noncomputable def HI(a b:V):Ab V:=λfr L Q E=>∀⦃g⦄ (w:Wn g fr L) {u v},VRel w.y a u->VRel w.y b v->∀z:Fz VRel w Q E,k9 g.A u v z.P z.X w.y.s
noncomputable def UI(v i x:V):Ab Unit:=λfr L Q E=>∀⦃g⦄ (w:Wn g fr L) {o j u},VRel w.y v o->VRel w.y i j->VRel w.y x u->∀z:Fz Ur w Q E,wpAny M g.A (setItem o j u) z.P z.X w.y.s
noncomputable def HZ(v lo hi st:V):Ab V:=λfr L Q E=>∀⦃g⦄ (w:Wn g fr L) {u l h s sl},VRel w.y v u->VRel w.y lo l->VRel w.y hi h->VRel w.y st s->w.y.h.IsSliceOf sl l h s->∀z:Fz VRel w Q E,k9 g.A u (.ref sl) z.P z.X w.y.s
noncomputable def UZ(v lo hi x:V):Ab Unit:=λfr L Q E=>∀⦃g⦄ (w:Wn g fr L) {u l h b sl},VRel w.y v u->VRel w.y lo l->VRel w.y hi h->VRel w.y x b->w.y.h.IsSliceOf sl l h .none->∀z:Fz Ur w Q E,wpAny M g.A (setItem u (.ref sl) b) z.P z.X w.y.s
noncomputable def d9(f:Value)(h:Heap):Prop:=∃k,(k=Keeper.frame\/k=Keeper.machine\/k=Keeper.boundFrame)/\Looks M h (keeperOf f) k
noncomputable def HK(d:Nat)(hd:Bool)(f:V)(us:List V):Ab V:=λfr L Q E=>∀⦃g:G⦄ (w:Wn g fr L) {gv vs},g.d=d->g.hd=hd->VRel w.y f gv->VsRel w.y us vs->∀z:Fz VRel w Q E,d9 gv w.y.h/\wpAny M g.A (call gv vs) z.P z.X w.y.s
inductive Mt where|fn (f:V) (fs:List V)|bi (j:Nat) (fs:List V)|frb
noncomputable def mbN:Nat->String
 | 0=>"list.append" | 1=>"dict.get" | 2=>"bytes.join" | 3=>"int.to_bytes" | 4=>"Exception.__init__" | _=>"bytearray.append"
noncomputable def fT:Obj:={cls:=.type "builtin_function_or_method",data:=.fields #[.builtin "int.from_bytes",.type "int"]}
noncomputable def MtRel(l:List Env)(y:Y):Mt->Value×List Value->Prop
 | .fn f fs,p=>VRel y f p.1/\VsRel y fs p.2
 | .bi j fs,p=>p.1=.builtin (mbN j)/\VsRel y fs p.2
 | .frb,p=>∃x,p=(.ref x,[])/\y.h.get? x=some fT/\¬y.own x/\x∉dH l/\Bs.objs.size<=x
noncomputable def qz(v:V)(a:Nat):Ab Mt:=λfr L Q E=>∀⦃g⦄ (w:Wn g fr L) {u pl},VRel w.y v u->∀z:Fz (MtRel g.l) w Q E,wpAny M g.A (getMethod u (nm a) pl) z.P z.X w.y.s
noncomputable def pE(d:Nat)(hd:Bool)(m:Mt)(us:List V):Ab V:=λfr L Q E=>∀⦃g:G⦄ (w:Wn g fr L) {p vs},g.d=d->g.hd=hd->MtRel g.l w.y m p->VsRel w.y us vs->∀z:Fz VRel w Q E,d9 p.1 w.y.h/\wpAny M g.A (call p.1 (p.2++vs)) z.P z.X w.y.s
noncomputable def eR(k:Nat):Hp->Option O
 | []=>none
 | (.l j,o)::r=>match Nat.beq j k with|true=>some o|false=>eR k r
 | (.s _,_)::r=>eR k r
noncomputable def il(k:Nat)(x:O):Hp->Hp
 | []=>[]
 | (.l j,o)::r=>match Nat.beq j k with|true=>(.l j,x)::r|false=>(.l j,o)::il k x r
 | (.s n,o)::r=>(.s n,o)::il k x r
noncomputable def If(b:Bool)(p q:Prop):Prop:=match b with|true=>p|false=>q
noncomputable def Ab.ite{α:Type}(b:Bool)(m n:Ab α):Ab α:=λfr L Q E=>If b (m fr L Q E) (n fr L Q E)
noncomputable def aD{α β:Type}(o:Option β)(fb:Ab α)(f:β->Ab α):Ab α:=match o with|some x=>f x|none=>fb
noncomputable def bg{α:Type}(b:Bool)(m n:Ab α):Ab α:=match b with|true=>m|false=>n
noncomputable def lT:V->Option Int
 | .int i=>some i
 | _=>none
noncomputable def isS:V->Option (List Nat)
 | .str s=>some s
 | _=>none
noncomputable def isL:V->Option Nat
 | .ref (.l k)=>some k
 | _=>none
noncomputable def isT:V->Option (List V)
 | .tup us=>some us
 | _=>none
noncomputable def isInst:O->Option (Nat×Nat)
 | .inst C (.l d)=>some (C,d)
 | _=>none
noncomputable def isNs:O->Option (List (Nat×V))
 | .ns fs=>some fs
 | _=>none
noncomputable abbrev Ins:=(Nat×Nat)×List (Nat×V)
noncomputable def dE(v:V)(L:Hp):Option Ins:=(isL v).bind λk=>(eR k L).bind λo=>(isInst o).bind λp=>(eR p.2 L).bind λx=>(isNs x).bind λfs=>some (p,fs)
noncomputable def kA(i:Int):Bool:=decide (i.natAbs<18446744073709551616)
noncomputable def binW(op:Op)(a b:V):Ab V:=aD (lT a) (HB op a b) λi=>aD (lT b) (HB op a b) λj=>match op with
 | .add=>.ret (.int (i+j))
 | .sub=>.ret (.int (i - j))
 | .band=>.ret (.int (Builtin.bitAnd i j))
 | .bor=>.ret (.int (Builtin.bitOr i j))
 | .bxor=>.ret (.int (Builtin.bitXor i j))
 | .mul=>bg (kA j) (.ret (.int (i*j))) (HB .mul (.int i) (.int j))
 | .mod=>bg (decide (0<j)) (.ret (.int (i % j))) (HB .mod (.int i) (.int j))
 | .fdiv=>bg (decide (0<j)&&kA j) (.ret (.int (i / j))) (HB .fdiv (.int i) (.int j))
 | .shl=>bg (decide (0<=j)&&(decide (j<=64)&&kA i)) (.ret (.int (i*2 ^ j.toNat))) (HB .shl (.int i) (.int j))
 | .shr=>bg (decide (0<=j)) (.ret (.int (i.fdiv (2 ^ j.toNat)))) (HB .shr (.int i) (.int j))
noncomputable def ordW(f:Int->Int->Bool)(o:Cm)(a b:V):Ab Bool:=aD (lT a) (HC o a b) λi=>aD (lT b) (HC o a b) λj=>.ret (f i j)
noncomputable def eqW(f:Bool->Bool)(o:Cm)(a b:V):Ab Bool:=aD (lT a) (aD (isS a) (HC o a b) λx=>aD (isS b) (HC o a b) λz=>.ret (f (aF x z))) λi=>aD (lT b) (HC o a b) λj=>.ret (f (ai i j))
noncomputable def noneV:V->Option Bool
 | .non=>some true
 | .int _=>some false
 | .tup _=>some false
 | .ref _=>some false
 | _=>none
noncomputable def oW:V->Bool
 | .non=>true
 | _=>false
noncomputable def nonW(f:Bool->Bool)(o:Cm)(a b:V):Ab Bool:=bg (oW b) (aD (noneV a) (HC o a b) λr=>.ret (f r)) (HC o a b)
noncomputable def strL:List V->Option (List (List Nat))
 | []=>some []
 | v::r=>(isS v).bind λx=>(strL r).bind λl=>some (x::l)
noncomputable def intL:List V->Option (List Int)
 | []=>some []
 | v::r=>(lT v).bind λx=>(intL r).bind λl=>some (x::l)
noncomputable def inW(a b:V):Ab Bool:=aD (isT b) (HC .isIn a b) λus=>aD (isS a) (aD (lT a) (HC .isIn a b) λi=>aD (intL us) (HC .isIn a b) λl=>.ret (l.any (ai · i))) λs=>aD (strL us) (HC .isIn a b) λl=>bg (iz s&&l.all iz) (.ret (l.any (aF · s))) (HC .isIn a b)
noncomputable def cmpW(o:Cm)(a b:V):Ab Bool:=match o with
 | .lt=>ordW (λi j=>decide (i<j)) .lt a b
 | .le=>ordW (λi j=>decide (i<=j)) .le a b
 | .gt=>ordW (λi j=>decide (j<i)) .gt a b
 | .ge=>ordW (λi j=>decide (j<=i)) .ge a b
 | .eq=>eqW id .eq a b
 | .ne=>eqW (!·) .ne a b
 | .is=>nonW id .is a b
 | .isNot=>nonW (!·) .isNot a b
 | .isIn=>inW a b
 | o=>HC o a b
noncomputable def truV:V->Option Bool
 | .bool b=>some b
 | .int i=>some (!ai i 0)
 | _=>none
noncomputable def pK(v:V):Ab Bool:=aD (truV v) (HTr v) .ret
noncomputable def unW(o:Un)(a:V):Ab V:=match o with
 | .neg=>aD (lT a) .no λi=>.ret (.int (-i))
 | .inv=>aD (lT a) .no λi=>.ret (.int (-i - 1))
 | .not_=>(pK a).bind λb=>.ret (.bool (!b))
noncomputable def attW(v:V)(a:Nat):Ab V:=λfr L=>aD (dE v L) (HA v a) (λp=>bg (fK p.1.1 a) (aD (look a p.2) (HA v a) .ret) (HA v a)) fr L
noncomputable def setL{β:Type}(b:β)(L':Hp):Ab β:=λfr _ Q _=>Q b fr L'
noncomputable def attU(v:V)(a:Nat)(x:V):Ab Unit:=λfr L=>aD (dE v L) (UA v a x) (λp=>bg (fK p.1.1 a&&Nat.ble p.2.length 100) (setL () (il p.1.2 (.ns (put a x p.2)) L)) (UA v a x)) fr L
noncomputable def mtOf(v:V)(a:Nat)(L:Hp):Option Mt:=(dE v L).bind λp=>(look p.1.1 T.cls).bind λk=>match k.isExc with
 | true=>none
 | false=>(match look a p.2 with
  | some f=>(match k.attrs.elem a with|true=>some (.fn f [])|false=>none)
  | none=>(look a k.meths).bind λf=>some (.fn (.top f) [v]))
noncomputable def metW(v:V)(a:Nat):Ab Mt:=λfr L=>aD (mtOf v a L) (qz v a) .ret fr L
noncomputable def kmW(d:Nat)(hd:Bool)(m:Mt)(vs:List V):Ab V:=match m with
 | .fn f fs=>HK d hd f (fs++vs)
 | m=>pE d hd m vs
noncomputable def itW(v k:V):Ab V:=aD (isT v) (HI v k) λl=>aD (lT k) (HI v k) λi=>aD (iX i l.length) (HI v k) λj=>aD (l[j]?) (HI v k) .ret
noncomputable def lI:O->Option (Option V)
 | .cell v=>some v
 | _=>none
noncomputable def celW(m:Hd):Ab V:=match m with
 | .l k=>λfr L=>aD (eR k L) .no (λo=>aD (lI o) .no λv=>aD v .no .ret) fr L
 | .s _=>.no
noncomputable def celU(m:Hd)(v:V):Ab Unit:=match m with
 | .l k=>λfr L=>aD (eR k L) .no (λo=>aD (lI o) .no λ_=>setL () (il k (.cell (some v)) L)) fr L
 | .s _=>.no
noncomputable def namW(k:Nk)(i:Nat):Ab V:=match k with
 | .loc=>λfr=>aD (look i fr.loc) .no .ret fr
 | .cel=>λfr=>aD (look i fr.cel) .no celW fr
 | .glo=>aD (look i T.glob) .no .ret
noncomputable def Fr.set(fr:Fr)(i:Nat)(v:V):Fr:=⟨put i v fr.loc,fr.cel⟩
noncomputable def mH(k:Nk)(i:Nat)(v:V):Ab Unit:=match k with
 | .loc=>λfr L Q _=>Q () (fr.set i v) L
 | .cel=>λfr=>aD (look i fr.cel) .no (λm=>celU m v) fr
 | .glo=>.no
noncomputable def litW:Lt->Ab V
 | .non=>.ret .non
 | .tru=>.ret (.bool true)
 | .fls=>.ret (.bool false)
 | .int i=>.ret (.int i)
 | .str k=>aD (look k T.txt) .no λcs=>.ret (.str cs)
 | .byt b=>.ret (.bytes b)
noncomputable def nU(L:Hp):V->List V->Prop
 | .tup us,vs=>us=vs
 | .ref n,vs=>(n,O.list vs)∈L
 | _,_=>False
noncomputable def itsW(v:V):Ab (List V):=aD (isT v) (λfr L Q _=>∃us,nU L v us/\Q us fr L) .ret
noncomputable def iT(n:Nat)(v:V):Ab (List V):=(itsW v).bind λvs=>bg (Nat.beq vs.length n) (.ret vs) .no
noncomputable def alW(o:O):Ab V:=λfr L Q _=>Al o L λn L=>Q (.ref n) fr L
noncomputable def pW:List V->Ab (List (V×V))
 | []=>.ret []
 | k::v::r=>(pW r).bind λl=>.ret ((k,v)::l)
 | _=>.no
noncomputable def allI:List (V×V)->Option (List (Int×V))
 | []=>some []
 | (k,v)::r=>(lT k).bind λi=>(allI r).bind λl=>some ((i,v)::l)
noncomputable def allS:List (V×V)->Option (List (List Nat×V))
 | []=>some []
 | (k,v)::r=>(isS k).bind λi=>(allS r).bind λl=>some ((i,v)::l)
noncomputable def mF{κ:Type}(eq:κ->κ->Bool):List (κ×V)->List (κ×V)->List (κ×V)
 | [],es=>es
 | (k,v)::r,es=>mF eq r (cH eq k v es)
noncomputable def dctW(vs:List V):Ab V:=(pW vs).bind λps=>aD (allI ps) (aD (allS ps) .no λes=>alW (.sdict (mF aF es []))) λes=>alW (.dict (mF ai es []))
noncomputable def sqW(k:Sq)(vs:List V):Ab V:=match k with
 | .tup=>bg (Nat.ble vs.length 1000) (.ret (.tup vs)) .no
 | .lst=>bg (Nat.ble vs.length 1000) (alW (.list vs)) .no
 | .dct=>dctW vs
inductive Ik where|lst (n:Hd) (i:Nat)|rng (lo:Int) (j:Nat)|enu (n:Hd) (i:Nat)
noncomputable abbrev Kn:=Fr->Hp->Prop
inductive Lp {σ:Type} (hp:σ->Hp) (turn:V->σ->(σ->Prop)->Prop) (done:σ->Prop):Ik->σ->Prop
 | nil {n i s us} (m:nU (hp s) (.ref n) us) (h:us[i]?=none) (q:done s):Lp hp turn done (.lst n i) s
 | cons {n i s us a N} (m:nU (hp s) (.ref n) us) (h:us[i]?=some a) (q:turn a s N) (k:∀s,N s->Lp hp turn done (.lst n (i+1)) s):Lp hp turn done (.lst n i) s
 | rnil {lo s} (q:done s):Lp hp turn done (.rng lo 0) s
 | rcons {lo j s N} (q:turn (.int lo) s N) (k:∀s,N s->Lp hp turn done (.rng (lo+1) j) s):Lp hp turn done (.rng lo (j+1)) s
 | enil {n i s us} (m:nU (hp s) (.ref n) us) (h:us[i]?=none) (q:done s):Lp hp turn done (.enu n i) s
 | econs {n} {i:Nat} {s us a N} (m:nU (hp s) (.ref n) us) (h:us[i]?=some a) (q:turn (.tup [.int (i:Int),a]) s N) (k:∀s,N s->Lp hp turn done (.enu n (i+1)) s):Lp hp turn done (.enu n i) s
theorem zk:Nonempty Ik:=⟨.rng 0 0⟩
noncomputable def oh(lo hi:Int):Bool:=match decide (lo.natAbs<2 ^ 61) with|true=>decide (hi.natAbs<2 ^ 61)|false=>false
noncomputable def forW{σ:Type}(hp:σ->Hp)(turn:V->σ->(σ->Prop)->Prop)(done:σ->Prop)(v:V)(s:σ):Prop:=match v with
 | .ref n=>Lp hp turn done (.lst n 0) s
 | .rng lo hi=>oh lo hi=true/\Lp hp turn done (.rng lo (hi - lo).toNat) s
 | _=>False
noncomputable abbrev St:=Fr×Hp
noncomputable def aU(m:V->Ab Fl)(Q:Fl->Kn)(E:Hd->Kn)(v:V)(s:St)(K:St->Prop):Prop:=m v s.1 s.2 (λf fr L=>match f with|.next=>K (fr,L)|f=>Q f fr L) E
structure Inf where
 tg:Nat:=0
 len:Nat:=0
 nm:Option Nat:=none
 ids:List Nat:=[]
 kk:Option Nat:=none
 vk:Option Nat:=none
noncomputable def ij:X->Inf
 | .comp _ _ _ _ _ _ _=>{tg:=2}
 | .attr _ _ _=>{tg:=3}
 | .nam _ i _=>{nm:=some i}
 | .nil=>{tg:=4,kk:=some 0}
 | .cons x r=>{tg:=5,len:=(ij r).len+1,ids:=(ij x).nm.toList++(ij r).ids,kk:=(ij r).vk,vk:=(ij r).kk.map (·+1)}
 | .sq k _ _=>{tg:=match k with|.tup=>1|.lst=>7|.dct=>0}
 | _=>{}
noncomputable abbrev tg(x:X):Nat:=(ij x).tg
noncomputable abbrev cQ(x:X):Nat:=(ij x).len
noncomputable abbrev xids(x:X):List Nat:=(ij x).ids
noncomputable def putR:List Nat->List V->List (Nat×V)->List (Nat×V)
 | i::is,u::us,l=>put i u (putR is us l)
 | _,_,l=>l
structure Wx where
 val:Ab V:=.no
 tru:Ab Bool:=.no
 tB:Bool->Ab Bool:=λ_=>.no
 vAnd:Ab V:=.no
 vals:Ab (List V):=.no
 stm:Ab Fl:=.no
 stms:Ab Fl:=.no
 asg:V->Ab Unit:=λ_=>.no
 asgs:List V->Ab Unit:=λ_=>.no
noncomputable def Wx.ofE(val:Ab V)(tru:Ab Bool):Wx:={val:=val,tru:=tru}
noncomputable def Wx.ofT(val:Ab V)(asg:V->Ab Unit):Wx:={val:=val,tru:=val.bind pK,asg:=asg}
noncomputable def Wx.ofV(val:Ab V):Wx:=.ofT val λ_=>.no
noncomputable def Wx.ofS(stm:Ab Fl):Wx:={stm:=stm}
noncomputable def i5(m:Ab Fl)(n:Ab Fl):Ab Fl:=m.bind λf=>match f with|.next=>n|f=>.ret f
noncomputable def caughtW(D:Ab V)(E:Hd->Fr->Hp->Prop)(suite:Hd->Kn)(n:Hd):Kn:=λfr L=>∃C dd,(n,O.exc C dd)∈L/\D fr L (λv fr L=>match v with
 | .top D'=>eW D'=true/\(match iv C D' with|true=>suite n fr L|false=>E n fr L)
 | _=>False) (λ_ _ _=>False)
noncomputable def lC{β:Type}(k:Nat):List (Nat×β)->List (Nat×β)
 | []=>[]
 | (j,v)::r=>match Nat.beq j k with|true=>lC k r|false=>(j,v)::lC k r
noncomputable def asN(w:Option Nat)(n:Hd)(fr:Fr):Fr:=match w with
 | some i=>⟨put i (.ref n) fr.loc,fr.cel⟩
 | none=>fr
noncomputable def goN(w:Option Nat)(Q:Fl->Kn):Fl->Kn:=λf fr L=>match w with
 | some i=>Q f ⟨lC i fr.loc,fr.cel⟩ L
 | none=>Q f fr L
noncomputable abbrev lQ:Hd->Kn:=λ_ _ _=>False
noncomputable def iD(cs:List (Nat×Hd)):List (Nat×NameKind)->Bool
 | []=>true
 | (i,.free)::r=>(look i cs).isSome&&iD cs r
 | _::r=>iD cs r
noncomputable abbrev Sc:=List V×Hp
noncomputable def iA(ifs:Ab Bool)(e:Ab V)(t:Nat)(cel:List (Nat×Hd))(v:V)(s:Sc)(K:Sc->Prop):Prop:=s.1.length<=1000000/\ifs ⟨[(t,v)],cel⟩ s.2 (λb fr L=>If b (e fr L (λw _ L=>K (s.1++[w],L)) lQ) (K (s.1,L))) lQ
noncomputable def compV(sc:List (Nat×NameKind))(t:Nat)(it:Ab V)(ifs:Ab Bool)(e:Ab V):Ab V:=λfr=>bg (iD fr.cel sc) (it.bind λv fr L Q _=>forW (·.2) (iA ifs e t fr.cel) (λs=>alW (.list s.1) fr s.2 Q lQ) v ([],L)) .no fr
noncomputable def finW(b f f':Ab Fl):Ab Fl:=λfr L Q E=>b fr L (λfl fr L=>f fr L (λf' fr L=>match f' with|.next=>Q fl fr L|f'=>Q f' fr L) E) λn fr L=>f' fr L (λf' fr L=>match f' with|.next=>E n fr L|_=>False) lQ
noncomputable def lamW(k:Nat):Ab V:=λfr=>bg (look (dj k) fr.cel).isSome (λfr L Q _=>∃L',Chg L (.l 0) (.tab k) (.tab (k+1)) L'/\alW (.fn k fr.cel) fr L' Q lQ) .no fr
noncomputable def wp(d:Nat):X->Bool->Wx
 | .lit l _,_=>.ofV (litW l)
 | .nam k i _,_=>.ofT (namW k i) (mH k i)
 | .bin op l r _,h=>.ofV ((wp d l h).val.bind λa=>(wp d r h).val.bind λb=>binW op a b)
 | .un o x _,h=>.ofE ((wp d x h).val.bind λa=>unW o a) (match o with|.not_=>(wp d x h).tru.bind λb=>.ret (!b)|_=>.no)
 | .ifx t b o _,h=>.ofE ((wp d t h).tru.bind λu=>.ite u (wp d b h).val (wp d o h).val) .no
 | .bop a xs _,h=>.ofE (match a with|true=>(wp d xs h).vAnd|false=>.no) ((wp d xs h).tB a)
 | .cmp l o r _,h=>.ofE ((wp d l h).val.bind λa=>(wp d r h).val.bind λb=>(cmpW o a b).bind λr=>.ret (.bool r)) ((wp d l h).val.bind λa=>(wp d r h).val.bind λb=>cmpW o a b)
 | .cmp2 l o m o2 r _,h=>.ofE .no ((wp d l h).val.bind λa=>(wp d m h).val.bind λb=>(cmpW o a b).bind λu=>.ite u ((wp d r h).val.bind λe=>cmpW o2 b e) (.ret false))
 | .attr o a _,h=>.ofT ((wp d o h).val.bind λv=>attW v a) λx=>(wp d o h).val.bind λv=>attU v a x
 | .sub o i _,h=>.ofT ((wp d o h).val.bind λv=>(wp d i h).val.bind λk=>itW v k) λx=>(wp d o h).val.bind λv=>(wp d i h).val.bind λk=>UI v k x
 | .subs o lo hi st _ _,h=>.ofT ((wp d o h).val.bind λv=>(wp d lo h).val.bind λl=>(wp d hi h).val.bind λu=>(wp d st h).val.bind λt=>HZ v l u t)
   λx=>bg (Nat.beq (tg st) 4) ((wp d o h).val.bind λv=>(wp d lo h).val.bind λl=>(wp d hi h).val.bind λu=>UZ v l u x) .no
 | .sq k xs _,h=>.ofT ((wp d xs h).vals.bind λvs=>sqW k vs) λx=>match k with|.tup=>(iT (cQ xs) x).bind (wp d xs h).asgs|_=>.no
 | .call f xs _,h=>.ofV ((wp d f h).val.bind λg=>(wp d xs h).vals.bind λvs=>HK d h g vs)
 | .mcall o a xs _ _,h=>.ofV ((wp d o h).val.bind λv=>(metW v a).bind λm=>(wp d xs h).vals.bind λvs=>kmW d h m vs)
 | .comp e t it ifs _ sc _,h=>.ofV (compV sc t (wp d it h).val ((wp d ifs h).tB true) (wp d e h).val)
 | .nil,_=>{val:=.ret .non,tB:=.ret,vals:=.ret [],stms:=.ret .next,asgs:=λvs=>match vs with|[]=>.ret ()|_::_=>.no}
 | .cons x r,h=>{tB:=λa=>(wp d x h).tru.bind λb=>match a with|true=>.ite b ((wp d r h).tB true) (.ret false)|false=>.ite b (.ret true) ((wp d r h).tB false),vAnd:=bg (Nat.beq (tg r) 4) (wp d x h).val (bg (Nat.beq (tg r) 5) ((wp d x h).val.bind λv=>(pK v).bind λb=>.ite b (wp d r h).vAnd (.ret v)) .no),vals:=(wp d x h).val.bind λv=>(wp d r h).vals.bind λvs=>.ret (v::vs),stms:=i5 (wp d x h).stm (wp d r h).stms,asgs:=λvs=>match vs with|v::vs=>((wp d x h).asg v).bind λ_=>(wp d r h).asgs vs|[]=>.no}
 | .s1 k e _,h=>.ofS (match k with
   | .expr=>(wp d e h).val.bind λ_=>.ret .next
   | .ret=>(wp d e h).val.bind λv=>.ret (.ret v)
   | .raise=>bg h .no ((wp d e h).val.bind λv fr L _ E=>∃n C dd,v=.ref n/\(n,O.exc C dd)∈L/\E n fr L))
 | .asg t e _,h=>.ofS ((wp d e h).val.bind λv=>((wp d t h).asg v).bind λ_=>.ret .next)
 | .asgs sw ts ys _ _ _,h=>.ofS (((wp d ys h).vals.bind (sqW .tup)).bind λv=>(iT (cQ ts) v).bind λvs=>match sw with
   | true=>λfr L Q _=>Q .next ⟨putR (xids ts) vs fr.loc,fr.cel⟩ L
   | false=>((wp d ts h).asgs vs).bind λ_=>.ret .next)
 | .iff t b o _,h=>.ofS ((wp d t h).tru.bind λu=>.ite u (wp d b h).stms (wp d o h).stms)
 | .for_ t it b _,h=>.ofS ((wp d it h).val.bind λv fr L Q E=>forW (·.2) (aU (λv=>((wp d t h).asg v).bind λ_=>(wp d b h).stms) Q E) (λs=>Q .next s.1 s.2) v (fr,L))
 | .forE ts x b _ _ _ _,h=>.ofS ((wp d x h).val.bind λv=>match v with
   | .ref n=>λfr L Q E=>Lp (·.2) (aU (λv=>(iT (cQ ts) v).bind λvs=>((wp d ts h).asgs vs).bind λ_=>(wp d b h).stms) Q E) (λs=>Q .next s.1 s.2) (.enu n 0) (fr,L)
   | _=>.no)
 | .exc b D w hx _ _,h=>.ofS λfr L Q E=>(wp d b h).stms fr L Q (caughtW (wp d D true).val E λn fr L=>(wp d hx true).stms (asN w n fr) L (goN w Q) lQ)
 | .fin b f _,h=>.ofS (finW (wp d b h).stms (wp d f h).stms (wp d f true).stms)
 | .lam k,_=>.ofV (lamW k)
 | .def_ i k,_=>.ofS ((lamW k).bind λv=>(mH .loc i v).bind λ_=>.ret .next)
noncomputable def bO(k:Option NameKind):Bool:=decide (k=some .local)
noncomputable def isGlo(k:Option NameKind):Bool:=decide (k=some .globalImplicit)
theorem ae{a b:Bool}(h:(a&&b)=true):a=true:=(Bool.and_eq_true_iff.mp h).1
theorem a8{a b:Bool}(h:(a&&b)=true):b=true:=(Bool.and_eq_true_iff.mp h).2
theorem gy{b:Bool}(h:(!b)=true):b=false:=by cases b<;>first|rfl|cases h
noncomputable def gG:Option NameKind->Option NameKind->Option NameKind
 | some .free,some .cell=>some .cell
 | k,_=>k
noncomputable abbrev Kd:=Nat->Option NameKind
noncomputable def my(κ:Kd):List (Nat×NameKind)->Bool
 | []=>true
 | (i,k)::r=>(match k with|.local=>true|.globalImplicit=>true|.free=>cB (κ i)|_=>false)&&((look i r).isNone&&my κ r)
noncomputable def dOk:Option Nat->Bool
 | some n=>Nat.ble 1 n&&Nat.ble n 14
 | none=>false
noncomputable def oI(κ:Str->Option NameKind)(line:Nat)(x:Expr):Option Str:=PySem.swappedStores.match_8 (λ_=>Option Str) x (λid pos=>if κ id==some .local&&pos.line==line then some id else none) λ_=>none
noncomputable def starred(x:Expr):Bool:=PySem.swappedStores.match_5 (λ_=>Bool) x (λ_ _=>true) λ_=>false
noncomputable def swB(κ:Str->Option NameKind)(ts vs:List Expr):Option (List Str) :=
 if !(ts.length==2||ts.length==3)||vs.length != ts.length then none
 else if vs.any starred then none
 else if(ts.filterMap (oI κ ((ts.head?.map (·.pos.line)).getD 0))).length != ts.length||(ts.filterMap (oI κ ((ts.head?.map (·.pos.line)).getD 0))).eraseDups.length != (ts.filterMap (oI κ ((ts.head?.map (·.pos.line)).getD 0))).length then none
 else if vs.all (foldedForSure 8) then none
 else some (ts.filterMap (oI κ ((ts.head?.map (·.pos.line)).getD 0)))
noncomputable def opt(x:X):Bool:=Nat.beq (tg x) 4||(er x).o.isSome
noncomputable def cmpT(t e:X):Bool:=match t with
 | .nam .loc i q=>(match e with|.comp _ _ _ _ _ sc p=>Nat.beq q.line p.line&&!bO (look i sc)|_=>false)
 | _=>false
noncomputable def isEx:FuncBody->Bool
 | .expr _=>true
 | _=>false
noncomputable def isSt:FuncBody->Bool
 | .stmts _=>true
 | _=>false
noncomputable def cL:Value->Bool
 | .ref a=>Nat.beq a lawA
 | _=>false
noncomputable def knd(b:Bool)(S:Str->Option NameKind)(κ:Kd):X->Bool
 | .lit _ _|.nil=>true
 | .nam .loc i _=>bO (κ i)
 | .nam .cel i _=>cB (κ i)
 | .nam .glo i _=>isGlo (κ i)
 | .bin _ l r _=>knd b S κ l&&knd b S κ r
 | .un _ x _=>knd b S κ x
 | .ifx t y o _=>knd b S κ t&&(knd b S κ y&&knd b S κ o)
 | .bop _ xs _=>knd b S κ xs
 | .cmp l _ r _=>knd b S κ l&&knd b S κ r
 | .cmp2 l _ m _ r _=>knd b S κ l&&(knd b S κ m&&knd b S κ r)
 | .attr o _ _=>knd b S κ o
 | .sub o i _=>knd b S κ o&&knd b S κ i
 | .subs o lo hi st _ _=>(knd b S κ o&&(knd b S κ lo&&(knd b S κ hi&&knd b S κ st)))&&(opt lo&&(opt hi&&opt st))
 | .sq k xs _=>knd b S κ xs&&(match k with|.dct=>Nat.beq (tg xs) 4||dOk (ij xs).kk|_=>true)
 | .call f xs _=>knd b S κ f&&(knd b S κ xs&&(Nat.ble (cQ xs) 20&&!Nat.beq (tg f) 3))
 | .mcall o _ xs ap p=>knd b S κ o&&(knd b S κ xs&&(Nat.ble (cQ xs) 20&&Nat.beq ap.endLine p.line))
 | .comp e t it ifs _ sc _=>knd b S κ it&&(bO (look t sc)&&(knd b (λs=>gG ((f_ sc).lookup s) (S s)) (λi=>gG (look i sc) (κ i)) e&&(knd b (λs=>gG ((f_ sc).lookup s) (S s)) (λi=>gG (look i sc) (κ i)) ifs&&(Nat.ble (cQ ifs) 1&&my κ sc))))
 | .lam k=>b&&(cB (κ (dj k))&&isEx (ck k).2.1)
 | .cons x r=>knd b S κ x&&knd b S κ r
 | .s1 k e _=>knd b S κ e&&(match k with|.expr=>!Nat.beq (tg e) 2|.ret=>opt e|.raise=>true)
 | .asg t e p=>knd b S κ t&&(knd b S κ e&&(!(Nat.beq (tg t) 1&&Nat.beq (tg e) 1)&&!Nat.beq (tg t) 7&&(!Nat.beq (tg e) 2||cmpT t e)))
 | .asgs sw ts ys _ _ _=>knd b S κ ts&&(knd b S κ ys&&(!((xl ys).all (constantsAlone 8))&&decide (swB S (xl ts) (xl ys)=match sw with|true=>some ((xids ts).map nm)|false=>none)&&(match sw with|true=>Nat.beq (xids ts).length (cQ ts)&&(xids ts).all λi=>bO (κ i)|false=>true)))
 | .iff t y o _=>knd b S κ t&&(knd b S κ y&&knd b S κ o)
 | .for_ t it y _=>knd b S κ t&&(knd b S κ it&&knd b S κ y)
 | .forE t x y _ _ _ _=>knd b S κ t&&(knd b S κ x&&(knd b S κ y&&(Nat.beq (cQ t) 2&&isGlo (κ 6))))
 | .exc y C n h _ _=>knd b S κ y&&(knd b S κ C&&(knd b S κ h&&((match n with|.none=>true|some i=>bO (κ i))&&Nat.beq (tg h) 5)))
 | .fin y f _=>knd b S κ y&&(knd b S κ f&&Nat.beq (tg f) 5)
 | .def_ i k=>b&&(cB (κ (dj k))&&(isSt (ck k).2.1&&bO (κ i)))
noncomputable abbrev κs(env:Env):Kd:=λi=>env.kindOf (nm i)
noncomputable def kd(env:Env)(x:X):Bool:=knd (cL env.code) env.kindOf (κs env) x
structure Form (x:X):Prop where
 star:∀rest env,starEach (xe x::rest) env=(false,eval (xe x) env)::starEach rest env
 plain:∀rest env,assignEach (xe x::rest) env=(false,assign (xe x) env)::assignEach rest env
 marks:∀o,behindInMarks (iB o) (xe x)=false
 fold:∀env v,foldedSetIterable (xe x) env v=pure v
 subs:∀o i,subscripted (xe x) false o i=operate [o,i] (getItem o i)
 nt:(Nat.beq (tg x) 1||Nat.beq (tg x) 7)=false->∀v env,swappedStores [xe x] v env=pure none
 nv:Nat.beq (tg x) 1=false->∀ts k p env,swappedStores [.Tuple ts k p] (xe x) env=pure none
 cal:Nat.beq (tg x) 3=false->∀args p env,eval (.Call (xe x) args [] p) env=(do callWith p (<-eval (xe x) env) [] (backTo p (starEach args env)) [])
 sw:Nat.beq (tg x) 2=false->∀n env,swapsWith (xe x) none n env=pure false/\∀t,swapsWithSole [t] (xe x) n env=pure false
theorem form(x:X):Form x:=by
 cases x with
 | sq k xs p =>
  refine⟨λ_ _=>by cases k<;>rfl,λ_ _=>by cases k<;>rfl,λ_=>by cases k<;>rfl,λ_ _=>by cases k<;>rfl,λ_ _=>by cases k<;>rfl,λh _ _=>?_,λh _ _ _ _=>?_,λ_ _ _ _=>by cases k<;>rfl,λ_ _ _=>by cases k<;>exact⟨rfl,λ_=>rfl⟩⟩
  .cases k<;>first|rfl|cases h
  .cases k<;>first|rfl|cases h
 | comp=>exact⟨λ_ _=>rfl,λ_ _=>rfl,λ_=>rfl,λ_ _=>rfl,λ_ _=>rfl,λ_ _ _=>rfl,λ_ _ _ _ _=>rfl,λ_ _ _ _=>rfl,nofun⟩
 | attr=>exact⟨λ_ _=>rfl,λ_ _=>rfl,λ_=>rfl,λ_ _=>rfl,λ_ _=>rfl,λ_ _ _=>rfl,λ_ _ _ _ _=>rfl,nofun,λ_ _ _=>⟨rfl,λ_=>rfl⟩⟩
 | _=>exact⟨λ_ _=>rfl,λ_ _=>rfl,λ_=>rfl,λ_ _=>rfl,λ_ _=>rfl,λ_ _ _=>rfl,λ_ _ _ _ _=>rfl,λ_ _ _ _=>rfl,λ_ _ _=>⟨rfl,λ_=>rfl⟩⟩
structure Other (x:X):Prop where
 t4:Nat.beq (tg x) 4=false
 t5:Nat.beq (tg x) 5=false
 lst:xl x=[]
 len:cQ x=0
 ids:xids x=[]
 kk:(ij x).kk=none
 vk:(ij x).vk=none
 o:(er x).o=some (xe x)\/(er x).o.isSome=false
theorem X.view{C:X->Prop}(nil:C .nil)(cons:∀x r,C r->C (.cons x r))(oth:∀x,Other x->C x)(x:X):C x:=by
 induction x with
 | nil=>exact nil
 | cons x r _ ih=>exact cons x r ih
 | sq k xs p=>cases k<;>exact oth _ ⟨rfl,rfl,rfl,rfl,rfl,rfl,rfl,.inl rfl⟩
 | _=>first|exact oth _ ⟨rfl,rfl,rfl,rfl,rfl,rfl,rfl,.inl rfl⟩|exact oth _ ⟨rfl,rfl,rfl,rfl,rfl,rfl,rfl,.inr rfl⟩
theorem eP{b:Bool}{C:Prop}(h:b=true)(e:b=false):C:=by subst e;cases h
theorem kG{x:X}:opt x=true->x=.nil\/(er x).o=some (xe x):=X.view (C:=λx=>opt x=true->x=.nil\/(er x).o=some (xe x)) (λ_=>.inl rfl) (λ_ _ _ h=>eP h rfl) (λx i h=>.inr (i.o.elim id λe=>eP h (by unfold opt;rw[i.t4,e];rfl))) x
theorem i7{x:X}:Nat.beq (tg x) 4=true->x=.nil:=X.view (C:=λx=>Nat.beq (tg x) 4=true->x=.nil) (λ_=>rfl) (λ_ _ _ h=>eP h rfl) (λx i h=>eP h i.t4) x
theorem gk{x:X}:Nat.beq (tg x) 5=true->∃z r,x=.cons z r:=X.view (C:=λx=>Nat.beq (tg x) 5=true->∃z r,x=.cons z r) (λh=>eP h rfl) (λz r _ h=>⟨z,r,rfl⟩) (λx i h=>eP h i.t5) x
theorem dU{β:Type}{k:Nat}{v:β}:∀{l:List (Nat×β)},look k l=some v->(k,v)∈l
 | (j,u)::r,e=>by
  have e:(match Nat.beq j k with|true=>some u|false=>look k r)=some v:=e;cases q:Nat.beq j k with
  | true=>rw[q] at e;cases e;rw[qH q];exact .head _
  | false=>rw[q] at e;exact .tail _ (dU e)
theorem kH{α:Type}:∀(i:Nat) (l:List α),l.length<=i->nthG i l=none
 | 0,[],_=>rfl
 | _+1,[],_=>rfl
 | 0,_::_,h=>absurd h (Nat.not_succ_le_zero _)
 | i+1,_::r,h=>kH i r (Nat.le_of_succ_le_succ h)
theorem jN{i:Nat}(h:222<=i):nm i=⟨#[i+2000000]⟩:=by
 unfold nm;rw[kH i nmL h]
noncomputable def nms:List Str:=(List.range 222).map nm
theorem nm_at{i:Nat}(h:i<222):nm i∈nms:=List.mem_map_of_mem (List.mem_range.mpr h)
theorem oE:(List.range 222).all (λi=>decide (nms.idxOf (nm i)=i))=true:=by decide +kernel
theorem nm_first:nms.all (λs=>match s.cps.toList with|[x]=>Nat.blt x 2000000|_=>true)=true:=by rfl'
theorem kJ{s:Str}(m:s∈nms){i:Nat}(h:222<=i):s≠nm i:=λe=>by
 have z:=List.all_eq_true.mp nm_first s m;rw[e,jN h] at z;exact absurd (Nat.blt_eq.mp z) (Nat.not_lt.mpr (Nat.le_add_left ..))
theorem i6(i j:Nat)(e:nm i=nm j):i=j:=by
 by_cases hi:i<222
 .by_cases hj:j<222
  .have a:=qD (List.all_eq_true.mp oE i (List.mem_range.mpr hi));rw[e,qD (List.all_eq_true.mp oE j (List.mem_range.mpr hj))] at a;exact a.symm
  .exact absurd e (kJ (nm_at hi) (Nat.not_lt.mp hj))
 .by_cases hj:j<222
  .exact absurd e.symm (kJ (nm_at hj) (Nat.not_lt.mp hi))
  .rw[jN (Nat.not_lt.mp hi),jN (Nat.not_lt.mp hj)] at e;exact Nat.add_right_cancel (List.cons.inj (qF (λs:Str=>s.cps.toList) e)).1
theorem nmNe{s:Str}(h:nms.all (λx=>decide (x≠s))=true)(h0:s.cps.size≠1)(i:Nat):nm i≠s:=λe=>by
 by_cases hi:i<222
 .exact qD (List.all_eq_true.mp h _ (nm_at hi)) e
 .rw[jN (Nat.not_lt.mp hi)] at e;exact h0 (qF (λs:Str=>s.cps.size) e.symm)
theorem txt_all:T.txt.all (λp=>decide (sx p.1=⟨p.2.toArray⟩))=true:=by rfl'
theorem txt_ok(k:Nat)(cs:List Nat)(e:look k T.txt=some cs):sx k=⟨cs.toArray⟩:=qD (List.all_eq_true.mp txt_all (k,cs) (dU e))
theorem nm_dbg(i:Nat):(nm i==("__debug__":Str))=false:=beq_eq_false_iff_ne.mpr (nmNe (by rfl') (by decide +kernel) i)
theorem nm_sup(i:Nat):(nm i != ("super":Str))=true:=bne_iff_ne.mpr (nmNe (by rfl') (by decide +kernel) i)
theorem nm_cld(i:Nat):(nm i==("__classdict__":Str))=false:=beq_eq_false_iff_ne.mpr (nmNe (by rfl') (by decide +kernel) i)
noncomputable def dcD:Data->Option (Array DictEntry×Nat)|.dict es n=>some (es,n)|_=>none
theorem dcD_ok{d:Data}{p:Array DictEntry×Nat}(h:dcD d=some p):d=.dict p.1 p.2:=by
 cases d with
 | dict es n=>exact qJ h▸rfl
 | _=>exact nomatch h
noncomputable def sqD:Data->Option (Array Value×Nat)|.seq vs n=>some (vs,n)|_=>none
theorem sqD_ok{d:Data}{p:Array Value×Nat}(h:sqD d=some p):d=.seq p.1 p.2:=by
 cases d with
 | seq es n=>exact qJ h▸rfl
 | _=>exact nomatch h
noncomputable def keyS:Value->Str|.str s _=>s|_=>⟨#[]⟩
noncomputable def tok:Value->Tok|.int _ t=>t|.str _ t=>t|.bytes _ t=>t|_=>default
noncomputable def pT:Value->Addr|.ref b=>b|_=>731
noncomputable def strKey(e:DictEntry):Bool:=decide (e.key=.str (keyS e.key) (tok e.key))
noncomputable def obB(a:Nat):Option Obj:=if a=731 then none else(HF w0.params).get? a
theorem i4{a:Nat}{o:Obj}(h:obB a=some o):Bs.get? a=some o:=by
 unfold obB at h;by_cases z:a=731
 .rw[if_pos z] at h;cases h
 .rw[if_neg z] at h;exact iJ z h
noncomputable def dicO(k:Nat):Option (Array DictEntry×Nat):=(obB k).bind λo=>dcD o.data
noncomputable def m_(k:Nat):Array DictEntry:=(dicO k).elim #[] Prod.fst
noncomputable def isD(k:Nat):Bool:=(dicO k).any λp=>p.1.toList.all strKey
theorem oA{k:Nat}(hs:isD k=true):Bs.Ns k (nsFind (m_ k)):=by
 obtain⟨p,e,hs⟩:=(Option.any_eq_true ..).mp hs;obtain⟨o,h1,h2⟩:=Option.bind_eq_some_iff.mp e;exact⟨o,p.1,p.2,i4 h1,dcD_ok h2,λx hx=>⟨_,_,qD (List.all_eq_true.mp hs x (Array.mem_toList_iff.mpr hx))⟩,λ_=>by unfold m_;rw[e];rfl⟩
noncomputable def valA:V->Tok->Option Value
 | .int i,t=>some (.int i t)
 | .str cs,t=>some (.str ⟨cs.toArray⟩ t)
 | .bytes bs,t=>some (.bytes ⟨bs⟩ t)
 | .top a,_=>some (.ref a)
 | .bi k,_=>some (.builtin (biN k))
 | .ty k,_=>some (.type (tyN k))
 | _,_=>none
noncomputable def chkA(x:V)(v:Value):Bool:=decide (valA x (tok v)=some v)
noncomputable def chkAs:List V->List Value->Bool
 | [],vs=>vs.isEmpty
 | a::as,vs=>vs.head?.any (chkA a)&&chkAs as vs.tail
noncomputable def tupC(o:Obj)(as:List V):Bool:=decide (o.cls=.type "tuple"/\o.dict=none/\o.slots.size=0)&&(sqD o.data).any λp=>chkAs as p.1.toList
noncomputable def chkG(a:V)(v:Value):Bool:=match a with
 | .tup as=>decide (v=.ref (pT v))&&(obB (pT v)).any (tupC · as)
 | a=>chkA a v
noncomputable def chkN(i:Nat)(a:V):Bool:=(nsFind (m_ 3) (nm i)).elim ((nsFind (m_ 0) (nm i)).any (chkG a)) (chkG a)
theorem glob_all:T.glob.all (λp=>chkN p.1 p.2)=true:=by rfl'
theorem d3:isD 3=true:=by rfl'
theorem d0:isD 0=true:=by rfl'
theorem pg{y:Y}{x:V}{v:Value}(e:chkA x v=true):VR y x v:=by
 have e:=qD e;cases x with
 | int i=>exact⟨_,(qJ e).symm⟩
 | str i=>exact⟨_,(qJ e).symm⟩
 | bytes i=>exact⟨_,(qJ e).symm⟩
 | top i=>exact(qJ e).symm
 | bi i=>exact(qJ e).symm
 | ty i=>exact(qJ e).symm
 | _=>cases e
theorem lH{y:Y}:∀{x:List V} {v:List Value},chkAs x v=true->VRs y x v
 | [],v,e=>List.isEmpty_iff.mp e
 | a::as,[],e=>nomatch e
 | a::as,v::vs,e=>⟨v,vs,rfl,λ_ _=>pg (ae e),lH (a8 e)⟩
theorem tupO{o:Obj}{p:Array Value×Nat}(h1:o.cls=.type "tuple")(h2:o.dict=none)(h3:o.slots.size=0)(h4:o.data=.seq p.1 p.2):o=ku p.1.toList p.2:=by
 exists h1 h2 h3 h4,zb o,(zx za zN) p;cases o;cases h1;cases h2;cases h4;cases Array.eq_empty_of_size_eq_zero h3;rfl
theorem tupC_ok{y:Y}(U:Up y.h){as:List V}{b:Addr}{o:Obj}(g:obB b=some o)(e:tupC o as=true){y':Y}(yl:Yl y y'):VR y' (.tup as) (.ref b):=by
 have h:=qD (ae e);obtain⟨p,h4,k⟩:=(Option.any_eq_true ..).mp (a8 e);cases tupO h.1 h.2.1 h.2.2 (sqD_ok h4);exact⟨b,rfl,p.1.toList,p.2,yl.imm _ _ (U.keep _ _ (i4 g)) rfl,lH k⟩
theorem pf{y:Y}(U:Up y.h){x:V}{v:Value}(e:chkG x v=true):VRel y x v:=by
 cases x with
 | tup as =>
  have h:=qD (ae e);obtain⟨o,g,k⟩:=(Option.any_eq_true ..).mp (a8 e);refine(h).symm▸?_;exact λ_ yl=>tupC_ok U g k yl
 | _=>exact λ_ _=>pg e
theorem glob_ok:∃mg mb,Bs.Ns mainGlobals mg/\Bs.Ns builtinsNs mb/\∀i a,look i T.glob=some a->∃v,(∀y,Up y.h->VRel y a v)/\(mg (nm i)=some v\/(mg (nm i)=none/\mb (nm i)=some v)):=by
 refine⟨_,_,oA d3,oA d0,λi a e=>?_⟩;have z:=List.all_eq_true.mp glob_all _ (dU e);unfold chkN at z;cases q:nsFind (m_ 3) (nm i) with
 | some v=>rw[q] at z;exact⟨v,λ_ U=>pf U z,.inl q⟩
 | none =>
  rw[q] at z;obtain⟨v,q',z⟩:=(Option.any_eq_true ..).mp z;exact⟨v,λ_ U=>pf U z,.inr ⟨q,q'⟩⟩
theorem Up.ns{h:Heap}(U:Up h){a:Addr}{m:Str->Option Value}(n:Bs.Ns a m):h.Ns a m:=let⟨o,es,ep,e,r⟩:=n;⟨o,es,ep,U.keep _ _ e,r⟩
section
section
variable {α β γ δ:Type} {rel:Y->α->β->Prop} {g:G} {fr fr':Fr} {L L':Hp} {w:Wn g fr L} {Q:α->Fr->Hp->Prop} {E:Hd->Fr->Hp->Prop} {t t':Sem β} {m n:Ab α}
theorem R.opt{o:Option γ}{f:γ->Ab α}(h:R rel w t m)(k:∀x,o=some x->R rel w t (f x)):R rel w t (aD o m f):=match o,k with
 | some x,k=>k x rfl
 | none,_=>h
theorem R.optN{o:Option γ}{f:γ->Ab α}(k:∀x,o=some x->R rel w t (f x)):R rel w t (aD o .no f):=.opt .no k
theorem R.bool{b:Bool}(k:b=true->R rel w t m)(h:R rel w t n):R rel w t (bg b m n):=match b,k with
 | true,k=>k rfl
 | false,_=>h
theorem R.boolN{b:Bool}(k:b=true->R rel w t m):R rel w t (bg b m .no):=.bool k .no
theorem R.ite{b c:Bool}(e:c=b)(h:R rel w t m)(k:R rel w t' n):R rel w (if b=true then t else t') (.ite c m n):=by subst e;exact match c with
 | true=>h
 | false=>k
theorem R.conv{α':Type}{rel':Y->α'->β->Prop}{f:α->α'}(h:R rel w t m)(k:∀{y a b},rel y a b->rel' y (f a) b):R rel' w t (m.bind λa=>.ret (f a)):=λQ E z q=>h _ _ (.mk z.P z.X ⟨λw' a b l r q=>z.ok w' (f a) b l (k r) q,z.ex⟩) q
theorem R.thn{α':Type}{rel':Y->α->α'->Prop}{f:β->Sem α'}(h:R rel w t m)(k:∀{fr' L'} (w':Wn g fr' L') {a b},rel w'.y a b->R rel' w' (f b) (.ret a)):R rel' w (t>>=f) m:=h.bind (n:=.ret) λw' _ _ _ r=>k w' r
theorem R.at'{m:Fr->Hp->Ab α}(h:R rel w t (m fr L)):R rel w t (λfr' L'=>m fr' L' fr' L'):=λQ E z q=>h Q E z q
theorem R.val{a:α}{b:β}(r:rel w.y a b)(h:∀{P:β->Shared->Prop} {X},P b w.y.s->wpAny M g.A t P X w.y.s):R rel w t (.ret a):=λ_ _ z q=>h (z.now r q)
theorem R.tok{a:α}{b:β}{n:Nat}(r:rel (w.y.to w.y.h n) a b)(h:∀{P:β->Shared->Prop} {X},P b {w.y.s with toks:=n}->wpAny M g.A t P X w.y.s):R rel w t (.ret a):=λ_ _ z q=>h (z.toks r q)
end
section
variable {y:Y} {u:Value} {C:Value->Prop}
theorem bq{i:Int}{t:Tok}:VRel y (.int i) (.int i t):=λ_ _=>⟨t,rfl⟩
theorem vstr{i:List Nat}{t:Tok}:VRel y (.str i) (.str ⟨i.toArray⟩ t):=λ_ _=>⟨t,rfl⟩
theorem lY{i:List UInt8}{t:Tok}:VRel y (.bytes i) (.bytes ⟨i⟩ t):=λ_ _=>⟨t,rfl⟩
theorem n_{i:Bool}:VRel y (.bool i) (.bool i):=λ_ _=>rfl
theorem jA:VRel y .non .none:=λ_ _=>rfl
@[elab_as_elim] theorem bl{i:Int}(x:VRel y (.int i) u)(f:∀t,C (.int i t)):C u:=by obtain⟨t,rfl⟩:=x.now;exact f t
@[elab_as_elim] theorem iY{s:List Nat}(x:VRel y (.str s) u)(f:∀t,C (.str ⟨s.toArray⟩ t)):C u:=by obtain⟨t,rfl⟩:=x.now;exact f t
@[elab_as_elim] theorem lz{b:List UInt8}(x:VRel y (.bytes b) u)(f:∀t,C (.bytes ⟨b⟩ t)):C u:=by obtain⟨t,rfl⟩:=x.now;exact f t
@[elab_as_elim] theorem eref{n:Hd}(x:VRel y (.ref n) u)(f:∀a,y.θ n=some a->C (.ref a)):C u:=by obtain⟨a,rfl,e⟩:=x.now;exact f a e
@[elab_as_elim] theorem etup{l:List V}(x:VRel y (.tup l) u)(f:∀a vs n,y.h.get? a=some (ku vs n)->VsRel y l vs->C (.ref a)):C u:=by obtain⟨a,rfl,vs,n,e,r⟩:=x.now;exact f a vs n e r.to
theorem eN{L:Hp}{C:Prop}{a:Addr}(R:Rel y L){m:Hd}{o:O}(i:(m,o)∈L)(e:y.θ m=some a)(f:∀ob,y.h.get? a=some ob->OR y ob o->C):C:=by
 cases R.obj _ _ i with
 | ob b ob e' g r=>cases e.symm.trans e';exact f ob g (r y (.refl y))
 | no k e'=>cases e.symm.trans e'
@[elab_as_elim] theorem bf{L:Hp}(R:Rel y L){m:Hd}{o:O}(i:(m,o)∈L)(x:VRel y (.ref m) u)(f:∀a ob,y.θ m=some a->y.h.get? a=some ob->OR y ob o->C (.ref a)):C u :=
 eref x λa e=>eN R i e λob=>f a ob e
end
theorem bA{α:Type}{a:α}{C:Prop}(h:none=some a):C:=by cases h
theorem eH{v:V}{i:Int}(h:lT v=some i):v=.int i:=by cases v with
 | int _=>exact qF V.int (qJ h)
 | _=>exact bA h
theorem kZ{v:V}{i:List Nat}(h:isS v=some i):v=.str i:=by cases v with
 | str _=>exact qF V.str (qJ h)
 | _=>exact bA h
theorem isT_e{v:V}{i:List V}(h:isT v=some i):v=.tup i:=by cases v with
 | tup _=>exact qF V.tup (qJ h)
 | _=>exact bA h
theorem isNone_e{v:V}(h:oW v=true):v=.non:=by cases v with
 | non=>rfl
 | _=>exact eP h rfl
theorem noneV_e{C:Bool->Prop}{v:V}{r:Bool}(h:noneV v=some r)(hn:v=.non->C true)(hv:(∀y u,VRel y v u->u≠.none)->C false):C r:=by
 cases v with
 | non=>exact qJ h▸hn rfl
 | int _=>exact qJ h▸hv λ_ _ r=>bl r λ_=>nofun
 | tup _=>exact qJ h▸hv λ_ _ r=>etup r λ_ _ _ _ _=>nofun
 | ref _=>exact qJ h▸hv λ_ _ r=>eref r λ_ _=>nofun
 | _=>exact bA h
theorem aa{k:Nat}{o x:O}:∀{L:Hp},eR k L=some o->Chg L (.l k) o x (il k x L):=by
 intro L;have up:∀{p:Hd×O} {L L':Hp} {n},Chg L n o x L'->Chg (p::L) n o x (p::L'):=λ⟨a,b,e1,e2⟩=>⟨_::a,b,qF (_::·) e1,qF (_::·) e2⟩
 induction L with
 | nil=>exact nofun
 | cons p r ih =>
  obtain⟨n,w⟩:=p;intro h;cases n with
  | s n=>exact up (ih h)
  | l j =>
   have h:(match Nat.beq j k with|true=>some w|false=>eR k r)=some o:=h;refine(?_:Chg _ _ _ _ (match Nat.beq j k with|true=>(.l j,x)::r|false=>(.l j,w)::il k x r));cases q:Nat.beq j k with
   | true=>rw[q] at h;cases h;cases qH q;exact⟨[],r,rfl,rfl⟩
   | false=>rw[q] at h;exact up (ih h)
theorem a9{k:Nat}{o:O}{L:Hp}(h:eR k L=some o):(.l k,o)∈L:=(aa (x:=o) h).mem
section
variable {L:Hp} {k l:Nat} {a:V} {us:List V} {ds:List PyData} {d:PyData} {i:Int}
structure IsD (h:Heap) (n:Nat) (v:Value) (d:PyData):Prop where
 rd:∃as,Reads h v d as
 lay:d.canLay0=true
 dep:d.depth<=n
structure IsDs (h:Heap) (n:Nat) (vs:List Value) (ds:List PyData):Prop where
 rd:∃bs,ReadsAll h vs ds bs
 lay:PyData.canLayAll0 ds=true
 dep:PyData.depthAll ds<=n
def Rd(L:Hp)(n:Nat)(u:V)(d:PyData):Prop:=∀{y v},Rel y L->VRel y u v->IsD y.h n v d
def Rds(L:Hp)(n:Nat)(us:List V)(ds:List PyData):Prop:=∀{y vs},Rel y L->VsRel y us vs->IsDs y.h n vs ds
theorem rd_non:Rd L k .non .none:=λ_ r=>by cases r.now;exact⟨⟨_,.none⟩,rfl,r0 _⟩
theorem fh{b:Bool}:Rd L k (.bool b) (.bool b):=λ_ r=>by cases r.now;exact⟨⟨_,.bool b⟩,rfl,r0 _⟩
theorem ca:Rd L k (.int i) (.int i):=λ_ r=>bl r λt=>⟨⟨_,.int i t⟩,rfl,r0 _⟩
theorem lD:∀{cs:List Nat},iz cs=true->cs.all (λx=>decide (x<0x110000))=true
 | [],_=>rfl
 | c::r,h=>by
  have h:(match Nat.blt c 1114112 with|true=>iz r|false=>false)=true:=h;cases q:Nat.blt c 1114112 with
  | false=>rw[q] at h;cases h
  | true=>rw[q] at h;rw[List.all_cons,lD h,Bool.and_true];exact decide_eq_true (Nat.blt_eq.mp q)
theorem mB{cs:List Nat}(q:iz cs=true):Rd L k (.str cs) (.str ⟨cs.toArray⟩):=λ_ r=>iY r λt=>⟨⟨_,.str _ t⟩,(List.all_toArray (p:=λx=>decide (x<0x110000)) (l:=cs)).trans (lD q),r0 _⟩
theorem bD:Rds L k [] []:=λ_ r=>by cases r;exact⟨⟨_,.nil⟩,rfl,r0 _⟩
theorem aG(x:Rd L k a d)(r:Rds L k us ds):Rds L k (a::us) (d::ds):=λR z=>by
 cases z with
 | cons h t =>
  have p:=x R h;have q:=r R t;exact⟨p.rd.elim λ_ a=>q.rd.elim λ_ b=>⟨_,.cons a b⟩,Bool.and_eq_true_iff.mpr ⟨p.lay,q.lay⟩,Nat.max_le.mpr ⟨p.dep,q.dep⟩⟩
theorem sml_bits{i:Int}(h:kA i=true):Builtin.Int.intBits i<=64:=by
 have:=qD h;exact intBits_le_64 (by omega) (by omega)
theorem kz:∀{us:List V} {l:List (List Nat)},strL us=some l->l.all iz=true->Rds L k us (l.map λx=>.str ⟨x.toArray⟩)
 | [],_,e,_=>by cases e;exact bD
 | v::us,l,e,h=>by
  refine nn λno=>?_;obtain⟨x,e1,e⟩:=Option.bind_eq_some_iff.mp e;obtain⟨r,e2,e⟩:=Option.bind_eq_some_iff.mp e;cases e;cases kZ e1;refine no ?_;have h:=Bool.and_eq_true_iff.mp ((List.all_cons ..).symm.trans h);exact aG (mB h.1) (kz e2 h.2)
theorem l5:∀{us:List V} {l:List Int},intL us=some l->Rds L k us (l.map PyData.int)
 | [],_,e=>by cases e;exact bD
 | v::us,l,e=>by
  refine nn λno=>?_;obtain⟨x,e1,e⟩:=Option.bind_eq_some_iff.mp e;obtain⟨r,e2,e⟩:=Option.bind_eq_some_iff.mp e;cases e;cases eH e1;refine no ?_;exact aG ca (l5 e2)
end
section
variable {g:G} {fr fr':Fr} {L L':Hp} {w:Wn g fr L} {a b:V} {u v:Value} {α:Type} {rel:Y->α->Value->Prop}
theorem R.op1{β:Type}{rel:Y->α->β->Prop}{t:Value->Sem β}(ra:VRel w.y a u):R rel w (t u) (Op1 rel t a):=λ_ _ z q=>q w ra z
theorem R.op2{β:Type}{rel:Y->α->β->Prop}{t:Value->Value->Sem β}(ra:VRel w.y a u)(rb:VRel w.y b v):R rel w (t u v) (Op2 rel t a b):=λ_ _ z q=>q w ra rb z
theorem R.ints{β:Type}{rel:Y->α->β->Prop}{t:Value->Value->Sem β}{f:Int->Int->Ab α}{fb:Ab α}(h:R rel w (t u v) fb)(ra:VRel w.y a u)(rb:VRel w.y b v)(k:∀i j s t',R rel w (t (.int i s) (.int j t')) (f i j)):R rel w (t u v) (aD (lT a) fb λi=>aD (lT b) fb λj=>f i j) :=
 .opt h λi ei=>.opt h λj ej=>by
  refine nn λno=>?_;cases eH ei;cases eH ej;refine no ?_;exact bl ra λs=>bl rb λt'=>k i j s t'
theorem dT:∀a b:List Nat,aF a b=(a==b)
 | [],[]|[],_::_|_::_,[]=>rfl
 | a::r,b::t=>by
  show(match Nat.beq a b with|true=>aF r t|false=>false)=(a::r==b::t);rw[List.cons_beq_cons,show(a==b)=Nat.beq a b from Bool.eq_iff_iff.mpr (beq_iff_eq.trans ⟨λe=>e▸Nat.beq_refl a,qH⟩)];cases Nat.beq a b
  .rfl
  .exact dT r t
theorem c_(a b:List Nat):aF a b=decide (jD a=jD b):=by
 rw[dT];exact Bool.eq_iff_iff.mpr (beq_iff_eq.trans ((show a=b ↔ jD a=jD b from⟨λe=>e▸rfl,λe=>qF Array.toList (qF Str.cps e)⟩).trans decide_eq_true_iff.symm))
theorem binW_ok{op:Op}(ra:VRel w.y a u)(rb:VRel w.y b v):R VRel w (binaryOp (opE op) u v) (binW op a b):=by
 cases op with
 | add=>exact .ints (.op2 ra rb) ra rb λi j s t=>.tok bq λh=>lw<|PySem.P.add_int h
 | sub=>exact .ints (.op2 ra rb) ra rb λi j s t=>.tok bq λh=>lw<|PySem.P.sub_int h
 | band=>exact .ints (.op2 ra rb) ra rb λi j s t=>.tok bq λh=>lw<|and_int h
 | bor=>exact .ints (.op2 ra rb) ra rb λi j s t=>.tok bq λh=>lw<|or_int h
 | bxor=>exact .ints (.op2 ra rb) ra rb λi j s t=>.tok bq λh=>lw<|xor_int h
 | mul=>exact .ints (.op2 ra rb) ra rb λi j s t=>.bool (λh=>.tok bq λk=>lw<|PySem.P.mul_int k (IntMulOk.of_right (sml_bits h))) (.op2 bq bq)
 | mod=>exact .ints (.op2 ra rb) ra rb λi j s t=>.bool (λh=>.tok bq λk=>lw<|mod_int' (Int.ne_of_gt (qD h)) (by rw[Int.fmod_eq_emod_of_nonneg _ (Int.le_of_lt (qD h))];exact k)) (.op2 bq bq)
 | fdiv=>exact .ints (.op2 ra rb) ra rb λi j s t=>.bool (λh=>.tok bq λk=>lw<|floordiv_int (Int.ne_of_gt (qD (ae h))) (by rw[Int.fdiv_eq_ediv_of_nonneg _ (Int.le_of_lt (qD (ae h)))];exact k) (.inl (PyProof.noPylong_of_log2
   (qL ((Nat.log2_lt (n:=j.natAbs) (k:=64) (λz=>absurd (Int.natAbs_eq_zero.mp z) (Int.ne_of_gt (qD (ae h))))).mpr (qD (a8 h))) (by decide))))) (.op2 bq bq)
 | shl=>exact .ints (.op2 ra rb) ra rb λi j s t=>.bool (λh=>.tok bq λk=>lw<|lshift_int_small (qD (ae h)) (Int.le_trans (qD (ae (a8 h))) (by decide)) (qD (a8 (a8 h))) k) (.op2 bq bq)
 | shr=>exact .ints (.op2 ra rb) ra rb λi j s t=>.bool (λh=>.tok bq λk=>lw<|rshift_int (qD h) k) (.op2 bq bq)
theorem eqv_str(x s:List Nat):PyData.eqv (.str ⟨x.toArray⟩) (.str ⟨s.toArray⟩)=aF x s:=by
 rw[c_];exact Bool.eq_iff_iff.mpr ((show((jD x==jD s)=true) ↔ _ from beq_iff_eq).trans decide_eq_true_iff.symm)
theorem inW_ok(ra:VRel w.y a u)(rb:VRel w.y b v):R Bv w (compareOp (iB .isIn) u v) (inW a b):=.opt (.op2 ra rb) λus eu=>by
 cases isT_e eu;have fin:∀{d:PyData} {ds:List PyData} {r:Bool},Rd L 8 a d->Rds L 8 us ds->(ds.any λz=>PyData.eqv z d)=r->R Bv w (compareOp (iB .isIn) u v) (.ret r):=λh1 h2 e=>by
  subst e;have p:=h1 w.now.rel ra;exact etup rb λad vs n e r=>by
   have s:=h2 w.now.rel r;exact .val rfl λk=>lw<|SeqAt.in_tuple_reads (.tuple e rfl rfl s.rd.choose_spec) p.rd.choose_spec s.lay p.lay (by have:=w.room.2;have:=p.dep;have:=s.dep;lia) k
 refine .opt (.opt (.op2 ra rb) λi ei=>.opt (.op2 ra rb) λl el=>?_) λs es=>.opt (.op2 ra rb) λl el=>.bool (λh=>?_) (.op2 ra rb)
 .cases eH ei;exact fin (ds:=l.map PyData.int) ca (l5 el) (by rw[List.any_map];rfl)
 .cases kZ es;exact fin (ds:=l.map λx=>PyData.str ⟨x.toArray⟩) (mB (ae h)) (kz el (a8 h)) (by rw[List.any_map];exact qF (List.any l) (funext λx=>eqv_str x s))
theorem eqW_ok{f:Bool->Bool}{o:Cm}(ra:VRel w.y a u)(rb:VRel w.y b v)(hi:∀i j s t,R Bv w (compareOp (iB o) (.int i s) (.int j t)) (.ret (f (ai i j))))(hs:∀x z s t,R Bv w (compareOp (iB o) (.str ⟨x.toArray⟩ s) (.str ⟨z.toArray⟩ t)) (.ret (f (aF x z)))):
  R Bv w (compareOp (iB o) u v) (eqW f o a b):=.opt (.opt (.op2 ra rb) λx ex=>.opt (.op2 ra rb) λz ez=>by
   refine nn λno=>?_;cases kZ ex;cases kZ ez;refine no ?_;exact iY ra λs=>iY rb λt=>hs x z s t) λi ei=>.opt (.op2 ra rb) λj ej=>by
  refine nn λno=>?_;cases eH ei;cases eH ej;refine no ?_;exact bl ra λs=>bl rb λt=>hi i j s t
theorem oD{f:Bool->Bool}{o:Cm}(ra:VRel w.y a u)(rb:VRel w.y b v)(hn:R Bv w (compareOp (iB o) .none .none) (.ret (f true)))(hv:∀v,v≠.none->R Bv w (compareOp (iB o) v .none) (.ret (f false))):R Bv w (compareOp (iB o) u v) (nonW f o a b) :=
 .bool (λeb=>.opt (.op2 ra rb) λr er=>by
  cases isNone_e eb;cases rb.now;exact noneV_e (C:=λr=>R Bv w (compareOp (iB o) u .none) (.ret (f r))) er (λe=>by cases e;cases ra.now;exact hn) λk=>hv _ (k _ _ ra)) (.op2 ra rb)
theorem gY{o:Cm}(ra:VRel w.y a u)(rb:VRel w.y b v):R Bv w (compareOp (iB o) u v) (cmpW o a b):=by
 cases o with
 | lt=>exact .ints (.op2 ra rb) ra rb λi j s t=>.val rfl λh=>lw<|PySem.P.lt_int h
 | le=>exact .ints (.op2 ra rb) ra rb λi j s t=>.val rfl λh=>lw<|PySem.P.le_int h
 | gt=>exact .ints (.op2 ra rb) ra rb λi j s t=>.val rfl λh=>lw<|PySem.P.gt_int h
 | ge=>exact .ints (.op2 ra rb) ra rb λi j s t=>.val rfl λh=>lw<|PySem.P.ge_int h
 | eq=>exact eqW_ok ra rb (λi j s t=>.val rfl λh=>lw<|PySem.P.eq_int h) λx z s t=>.val (qF Value.bool (dT x z).symm) λh=>lw<|PySem.P.eq_str h
 | ne=>exact eqW_ok ra rb (λi j s t=>.val rfl λh=>lw<|PySem.P.ne_int h) λx z s t=>.val (qF (λb=>Value.bool !b) (dT x z).symm) λh=>lw<|PySem.P.ne_str h
 | is=>exact oD ra rb (.val rfl λh=>lw<|is_none h) λv hv=>.val rfl λh=>lw<|is_none_ne hv h
 | isIn=>exact inW_ok ra rb
 | isNot=>exact oD ra rb (.val rfl λh=>lw<|isNot_none h) λv hv=>.val rfl λh=>lw<|isnot_none_ne hv h
 | _=>exact .op2 ra rb
theorem o6{x:Bool}(r:u=.bool x):R Br w (truthy u) (.ret x):=by subst r;exact .val rfl λh=>lw<|wpAny_truthy_bool h
theorem jC(ra:VRel w.y a u):R Br w (truthy u) (pK a):=.opt (.op1 ra) λr er=>by
 cases a with
 | bool _=>cases er;exact o6 ra.now
 | int _=>cases er;exact bl ra λt=>.val rfl λh=>lw<|PySem.P.truthy_int h
 | _=>exact bA er
theorem unW_ok{o:Un}(ra:VRel w.y a u):R VRel w (unaryOp (unE o) u) (unW o a):=by
 cases o with
 | neg=>exact .optN λi ei=>by cases eH ei;exact bl ra λt=>.tok bq λh=>lw<|P.neg_int h
 | inv=>exact .optN λi ei=>by cases eH ei;exact bl ra λt=>.tok bq λh=>lw<|invert_int h
 | not_=>exact R.hold (m:=(pK a).bind λb=>Ab.ret (V.bool !b)) (.bind (jC ra) λ_ b c _ r=>by cases r;exact .pure n_)
end
end
section
structure Bdy (g:G):Prop where
 top:∃r,g.l=g.env::r
 frm:g.env.frame=some g.env.locals
noncomputable abbrev Wd:=Nat->Bool->Wx
noncomputable abbrev SV(x:X)(m:Nat->Bool->Ab V):Prop:=∀{g fr L} (w:Wn g fr L),kd g.env x=true->R VRel w (eval (xe x) g.env) (m g.d g.hd)
noncomputable abbrev ST(x:X)(m:Nat->Bool->Ab Bool):Prop:=∀{g fr L} (w:Wn g fr L),kd g.env x=true->R Br w (isTrue (xe x) g.env (eval (xe x) g.env)) (m g.d g.hd)
noncomputable abbrev SS(x:X)(m:Nat->Bool->Ab Fl):Prop:=∀{g fr L} (w:Wn g fr L),kd g.env x=true->Bdy g->R flrel w (exec (er x).s g.env) (m g.d g.hd)
noncomputable abbrev SA(x:X)(m:Nat->Bool->V->Ab Unit):Prop:=∀{g fr L} (w:Wn g fr L) {v u},kd g.env x=true->VRel w.y v u->R Ur w (assign (xe x) g.env u) (m g.d g.hd v)
noncomputable abbrev pA(y:Y):List (V×V)->List (Value×Value)->Prop:=All2 λp q=>VRel y p.1 q.1/\VRel y p.2 q.2
noncomputable def pendT(k:Value)(x:Ex)(env:Env)(p:Pos):Sem (List (Value×Value)):=match x.vv with
 | v::vs=>do
  let v <-holding [k] (do let x <-eval v env;standAt p;pure x)
  return (k,v)::(<-holding [k,v] (evalPairs (pairTrees x.vk vs env p)))
 | []=>pure []
structure SndW (x:X) (f:Wd):Prop where
 val:SV x λd h=>(f d h).val
 tru:ST x λd h=>(f d h).tru
 tB:∀(a:Bool) {g fr L} (w:Wn g fr L),kd g.env x=true->R Br w (allTrue (boE a) (xl x) g.env) ((f g.d g.hd).tB a)
 vAnd:∀(p:Pos) {g fr L} (w:Wn g fr L),kd g.env x=true->R VRel w (boolOp p .And (evalEach (xl x) g.env)) (f g.d g.hd).vAnd
 vals:∀(p:Pos) {g fr L} (w:Wn g fr L),kd g.env x=true->R VsRel w (spliced (backTo p (starEach (xl x) g.env))) (f g.d g.hd).vals
 stm:SS x λd h=>(f d h).stm
 stms:∀{g fr L} (w:Wn g fr L),kd g.env x=true->Bdy g->R flrel w (execs (xss x) g.env) (f g.d g.hd).stms
 asg:SA x λd h=>(f d h).asg
 asgs:∀{g fr L} (w:Wn g fr L) {vs us},kd g.env x=true->VsRel w.y vs us->R Ur w (assignInOrder ((assignEach (xl x) g.env).map (·.2)) us) ((f g.d g.hd).asgs vs)
 prs:∀{n:Nat} (p:Pos) {g fr L} (w:Wn g fr L),(ij x).kk=some n->kd g.env x=true->R pA w (evalPairs (pairTrees (er x).kk (er x).kv g.env p)) ((f g.d g.hd).vals.bind pW)
 prs2:∀{n:Nat} (p:Pos) {g fr L} (w:Wn g fr L) {k:V} {kv:Value},(ij x).vk=some n->kd g.env x=true->VRel w.y k kv->R pA w (pendT kv (er x) g.env p) ((f g.d g.hd).vals.bind λvs=>pW (k::vs))
noncomputable abbrev aP(x:X):Prop:=SndW x λd h=>wp d x h
section
variable {x z r l xs:X} {p:Pos}
theorem SndW.ofE{v:Nat->Bool->Ab V}{t:Nat->Bool->Ab Bool}(hv:SV x v)(ht:ST x t):SndW x λd h=>.ofE (v d h) (t d h) :=
 ⟨hv,ht,λ_ _ _ _ _ _=>.no,λ_ _ _ _ _ _=>.no,λ_ _ _ _ _ _=>.no,λ_ _ _=>.no,λ_ _ _=>.no,λ_ _ _ _ _=>.no,λ_ _ _ _ _=>.no,λ_ _ _ _ _ _ _=>.no,λ_ _ _ _ _ _ _ _ _ _=>.no⟩
theorem SndW.ofT{v:Nat->Bool->Ab V}{a:Nat->Bool->V->Ab Unit}(he:∀env whole,isTrue (xe x) env whole=(do let v <-whole;standAt (xe x).pos;holding [v] (truthy v)))(hv:SV x v)(ha:SA x a):SndW x λd h=>.ofT (v d h) (a d h) :=
 ⟨hv,λw k=>by rw[he];exact(hv w k).bind λ_ _ _ _ r=>.stand (.hold (jC r)),λ_ _ _ _ _ _=>.no,λ_ _ _ _ _ _=>.no,λ_ _ _ _ _ _=>.no,λ_ _ _=>.no,λ_ _ _=>.no,ha,λ_ _ _ _ _=>.no,λ_ _ _ _ _ _ _=>.no,λ_ _ _ _ _ _ _ _ _ _=>.no⟩
theorem SndW.ofV{v:Nat->Bool->Ab V}(he:∀env whole,isTrue (xe x) env whole=(do let v <-whole;standAt (xe x).pos;holding [v] (truthy v)))(hv:SV x v):SndW x λd h=>.ofV (v d h):=.ofT he hv λ_ _ _ _ _=>.no
theorem SndW.ofS{m:Nat->Bool->Ab Fl}(h:SS x m):SndW x λd h=>.ofS (m d h) :=
 ⟨λ_ _=>.no,λ_ _=>.no,λ_ _ _ _ _ _=>.no,λ_ _ _ _ _ _=>.no,λ_ _ _ _ _ _=>.no,h,λ_ _ _=>.no,λ_ _ _ _ _=>.no,λ_ _ _ _ _=>.no,λ_ _ _ _ _ _ _=>.no,λ_ _ _ _ _ _ _ _ _ _=>.no⟩
theorem snd_lit{l:Lt}:aP (.lit l p):=.ofV (λ_ _=>rfl) λ{g fr L} w _=>by
 cases l with
 | non=>exact .pure jA
 | tru=>exact .pure n_
 | fls=>exact .pure n_
 | int i=>exact .tok bq λh=>lw<|wpAny_mkInt h
 | byt b=>exact .tok lY λh _ _ _ _ _=>h
 | str k =>
  refine .optN λcs e=>?_;refine(?_:R VRel w (mkText (sx k)) _);rw[txt_ok _ _ e];exact .tok vstr λh=>lw<|wpAny_mkText h
theorem pi{o:O}{v:Option V}(h:lI o=some v):o=.cell v:=by cases o with
 | cell _=>exact qF O.cell (qJ h)
 | _=>exact bA h
variable {g:G} {fr:Fr} {L:Hp}
theorem oX{C:Option NameKind->Prop}{k:Option NameKind}(h:cB k=true)(c:C (some .cell))(f:C (some .free)):C k:=by
 cases k with
 | none=>exact eP h rfl
 | some k=>cases k with
  | cell=>exact c
  | free=>exact f
  | _=>exact eP h rfl
theorem cel_at(w:Wn g fr L){i:Nat}{m:Hd}{v:Option V}{C:Prop}(hk:cB (g.env.kindOf (nm i))=true)(e:look i fr.cel=some m)(o:(m,O.cell v)∈L)
  (f:∀a x,g.env.cells.lookup (nm i)=some a->w.y.θ m=some a->w.y.h.get? a=some {cls:=.type "cell",data:=.cell x}->OptR w.y v x->C):C :=
 (w.now.fr'.cel i m e hk).elim λa z=>eN w.now.rel o z.2 λob q r=>r.elim λx r=>f a x z.1 z.2 (r.1▸q) r.2
theorem oJ(w:Wn g fr L){k:Nk}{i:Nat}(hk:kd g.env (.nam k i p)=true):R VRel w (loadName g.env (nm i)) (namW k i):=by
 exists w k hk,zP p,zG g,zF fr,zL L,zN i;cases k with
 | loc =>
  refine R.at' (m:=λfr _=>aD (look i fr.loc) .no .ret) (.optN λv e=>?_);refine nn λno=>?_;obtain⟨m,hn,hm⟩:=w.now.fr'.loc;obtain⟨x,hx,hr⟩:=hm i v e;refine no ?_;exact .val hr λh=>lw<|wpAny_loadName_local w.now.at'.fn (qD hk) hn hx h
 | glo =>
  refine .optN λa e=>?_;refine nn λno=>?_;obtain⟨mg,mb,hg,hb,hh⟩:=glob_ok;obtain⟨v,hv,hc⟩:=hh i a e;refine no ?_;refine .val (hv _ w.now.rel.up) λfin=>?_;have eg:w.y.h.Ns g.env.globals mg:=w.now.at'.glb▸w.now.rel.up.ns hg;rw[loadName_read w.now.at'.fn (qD hk)];exact hc.elim (λhc=>lw<|Calls.loadGlobal_global eg hc fin) λhc=>lw<|Calls.loadGlobal_builtin eg hc.1 (w.now.at'.blt▸w.now.rel.up.ns hb) hc.2 fin
 | cel =>
  refine R.at' (m:=λfr _=>aD (look i fr.cel) .no celW) (.optN λm e=>?_);cases m with
  | s _=>exact .no
  | l j =>
   refine R.at' (m:=λ_ L=>aD (eR j L) .no λo=>aD (lI o) .no λv=>aD v .no .ret) (.optN λo eo=>.optN λv ev=>.optN λv e'=>?_);cases pi ev;cases e';refine cel_at w hk e (a9 eo) λa x ha _ e2 r=>?_;cases x with
   | none=>exact r.elim
   | some u=>exact .val r λfin=>oX (C:=λq=>g.env.kindOf (nm i)=q->wpAny M g.A (loadName g.env (nm i)) _ _ w.y.s) hk (λq=>lw<|wpAny_loadName_cell w.now.at'.fn q ha ⟨_,e2,rfl⟩ fin) (λq=>lw<|wpAny_loadName_free w.now.at'.fn q ha ⟨_,e2,rfl⟩ fin (nm_cld i)) rfl
theorem snd_bin{op:Op}(hl:aP l)(hr:aP r):aP (.bin op l r p):=.ofV (λ_ _=>rfl) λw k =>
 .bind (hl.val w (ae k)) λrt a u l ra=>.bind (.hold (hr.val rt (a8 k))) λro b v l' rb=>.stand (.oper (binW_ok (ra.mono l'.toYl) rb))
theorem snd_un{o:Un}(hx:aP x):aP (.un o x p):=.ofE (λw k=>.bind (hx.val w k) λrt a u l ra=>.stand (.hold (unW_ok ra))) λw k=>by
 cases o with
 | not_=>exact .bind (hx.tru w k) λrt a b l ra=>.pure (qF _ ra)
 | _=>exact .no
theorem snd_ifx{t b o:X}(ht:aP t)(hb:aP b)(ho:aP o):aP (.ifx t b o p):=.ofE (λw k=>.bind (ht.tru w (ae k)) λrt a u l ra=>.ite ra (hb.val rt (ae (a8 k))) (ho.val rt (a8 (a8 k)))) λ_ _=>.no
theorem snd_bop{a:Bool}(hx:aP xs):aP (.bop a xs p):=.ofE (λw k=>by
 cases a with
 | true=>exact hx.vAnd p w k
 | false=>exact .no) λw k=>hx.tB a w k
theorem mM{o:Cm}{t:Sem Value}:markedBehindIn (iB o) (xe r) t=t:=markedBehindIn_of_false ((form r).marks o)
theorem snd_cmp{o:Cm}(hl:aP l)(hr:aP r):aP (.cmp l o r p):=.ofE (λ{g fr L} w k=>by
  refine(?_:R VRel w (do let a <-eval (xe l) g.env;let b <-holding [a] (markedBehindIn (iB o) (xe r) (eval (xe r) g.env));standAt p;operate [a,b] (compareOp (iB o) a b)) _);refine(mM).symm▸?_;exact .bind (hl.val w (ae k)) λrt a u l ra=>.bind (.hold (hr.val rt (a8 k))) λro b v l' rb=>.stand (.oper ((gY (ra.mono l'.toYl) rb).conv λr=>r▸n_))) λ{g fr L} w k=>by
  refine(?_:R Br w (do let a <-eval (xe l) g.env;let b <-holding [a] (markedBehindIn (iB o) (xe r) (eval (xe r) g.env));standAt p;let c <-operate [a,b] (compareOp (iB o) a b);holding [c] (truthy c)) _);refine(mM).symm▸?_;exact .bind (hl.val w (ae k)) λrt a u l ra=>.bind (.hold (hr.val rt (a8 k))) λro b v l' rb=>.stand (.thn (.oper (gY (ra.mono l'.toYl) rb)) λrF _ _ rc=>.hold (o6 rc))
end
end
noncomputable abbrev len{β:Type}(l:List β):Nat:=l.length
noncomputable abbrev setn{β:Type}(v:β)(n:Nat)(l:List β):List β:=l.set n v
theorem len_eq{β:Type}(l:List β):len l=l.length:=rfl
theorem jG{β:Type}(v:β)(n:Nat)(l:List β):setn v n l=l.set n v:=rfl
noncomputable def cg(i:Int):Option UInt8:=match decide (0<=i),decide (i<256) with
 | true,true=>some i.toNat.toUInt8
 | _,_=>.none
noncomputable def dZ:List UInt8->List UInt8->Bool
 | [],[]=>true
 | a::r,b::t=>match Nat.beq a.toNat b.toNat with|true=>dZ r t|false=>false
 | _,_=>false
noncomputable def f5:Nat->Nat->List UInt8
 | 0,_=>[]
 | n+1,k=>(k % 256).toUInt8::f5 n (k / 256)
noncomputable def bn:List UInt8->Nat
 | []=>0
 | b::r=>b.toNat+256*bn r
set_option tactic.hygienic true in
theorem cD{k:Int}{n j:Nat}(e:iX k n=some j):k.natAbs<2 ^ 62/\j<n/\((0<=k/\j=k.toNat)\/(k<0/\-(n:Int)<=k/\j=(k+n).toNat)):=by
 revert e;revert k n j;refine @al3 _ _ _ zI zN zN ?P ((?f:∀a b c,?P a b c) _ _ _);intro k n j e;unfold iX at e;split at e
 .cases e
 .rename_i h0;split at e
  .rename_i h1;split at e
   .rename_i h2;cases e;exact⟨qD h0,Nat.blt_eq.mp h2,.inl ⟨qD h1,rfl⟩⟩
   .cases e
  .rename_i h1;have h1:=of_decide_eq_false h1;split at e
   .rename_i h2;have h2:=qD h2;cases e;exact⟨qD h0,by omega,.inr ⟨by omega,h2,rfl⟩⟩
   .cases e
theorem gU{k:Int}{n j:Nat}(e:iX k n=some j):seqIndex? k n=some j:=by
 revert e;revert k n j;refine @al3 _ _ _ zI zN zN ?P ((?f:∀a b c,?P a b c) _ _ _);intro k n j e;obtain⟨_,hj,h⟩:=cD e;rcases h with⟨h0,rfl⟩|⟨h0,h1,rfl⟩
 .simp[seqIndex?,show ¬k<0 by omega,h0,show k<n by omega]
 .simp[seqIndex?,h0,show 0<=k+(n:Int) by omega,show k+(n:Int)<n by omega]
theorem cU{α:Type}(l:List α)(lo hi:Option Int):cut (lo.elim 0 (clipAt l.length)) (hi.elim l.length (clipAt l.length)) l=(l.drop (lo.elim 0 (clipAt l.length))).take (hi.elim l.length (clipAt l.length) - lo.elim 0 (clipAt l.length)):=by
 unfold cut;rw[List.drop_take]
noncomputable abbrev bG{α:Type}(lo hi:Option Int)(l:List α):List α:=cut (lo.elim 0 (clipAt l.length)) (hi.elim l.length (clipAt l.length)) l
theorem mw{A:Around}{s:Shared}{vs:List Value}{k:Nat}{ad sl:Addr}{vl vu:Value}{lo hi:Option Int}{Q X:Value->Shared->Prop}(ho:s.heap.get? ad=some (aM vs k))(hs:s.heap.IsSliceOf sl vl vu .none)
  (pl:IsPart vl lo) (pu:IsPart vu hi) (hz:vs.length<=1000000) (h:Q (.ref s.heap.objs.size) {s with heap:=s.heap.push (aM (bG lo hi vs) 0)}):wpAny M A (getItem (.ref ad) (.ref sl)) Q X s:=by
 refine lw<|wpAny_getItem_list_slice (items:=vs.toArray) ⟨_,ho,rfl,k,rfl⟩ hs pl pu .none (by intro z;cases z) ?_ (by simp only[List.size_toArray,sizeLine];omega);rw[slicePick_plain];simp only[List.size_toArray,List.toList_toArray];rw[<-cU];exact h
section
namespace LB
theorem owner_ba:Manifest.owners.lookup (String.ofList ['y','a','r','r','a','e','t','y','b'].reverse)=some Manifest.sig_bytearray:=by rfl'
theorem slot_len:Slot "bytearray" "__len__" "bytearray.__len__" :=
 .of (owner:="bytearray") (n:="__len__") (by rw[qX,qT];rfl') (by decide +kernel) (by decide +kernel) (by decide +kernel)
  (by first|exact .inl (by decide +kernel)|exact .inr (by decide +kernel)) (by rw[isSubtype_type];rfl')
theorem entry_len:entryFor table "bytearray.__len__"=some Builtin.«bytearray.__len__»:=entryFor_of_tree (by rfl')
theorem args_len(a:Value):argsOk "bytearray.__len__" ⟨[a],[]⟩:=by
 unfold argsOk;rw[signature?_of (id:="bytearray.__len__") (n:=['_','_','n','e','l','_','_']) (o:=['y','a','r','r','a','e','t','y','b']) (by rfl') owner_ba];rfl'
theorem slot_eq:Slot "bytearray" (cmpInfo .Eq).2.1 "bytearray.__eq__" :=
 .of (owner:="bytearray") (n:="__eq__") (by rw[qX,qT];rfl') (by decide +kernel) (by decide +kernel) (by decide +kernel)
  (by first|exact .inl (by decide +kernel)|exact .inr (by decide +kernel)) (by rw[isSubtype_type];rfl')
theorem entry_eq:entryFor table "bytearray.__eq__"=some Builtin.«bytearray.__eq__»:=entryFor_of_tree (by rfl')
theorem args_eq(a b:Value):argsOk "bytearray.__eq__" ⟨[a,b],[]⟩:=by
 unfold argsOk;rw[signature?_of (id:="bytearray.__eq__") (n:=['_','_','q','e','_','_']) (o:=['y','a','r','r','a','e','t','y','b']) (by rfl') owner_ba];rfl'
theorem slot_ne:Slot "bytearray" (cmpInfo .NotEq).2.1 "bytearray.__ne__" :=
 .of (owner:="bytearray") (n:="__ne__") (by rw[qX,qT];rfl') (by decide +kernel) (by decide +kernel) (by decide +kernel)
  (by first|exact .inl (by decide +kernel)|exact .inr (by decide +kernel)) (by rw[isSubtype_type];rfl')
theorem entry_ne:entryFor table "bytearray.__ne__"=some Builtin.«bytearray.__ne__»:=entryFor_of_tree (by rfl')
theorem args_ne(a b:Value):argsOk "bytearray.__ne__" ⟨[a,b],[]⟩:=by
 unfold argsOk;rw[signature?_of (id:="bytearray.__ne__") (n:=['_','_','e','n','_','_']) (o:=['y','a','r','r','a','e','t','y','b']) (by rfl') owner_ba];rfl'
theorem slot_get:Slot "bytearray" "__getitem__" "bytearray.__getitem__" :=
 .of (owner:="bytearray") (n:="__getitem__") (by rw[qX,qT];rfl') (by decide +kernel) (by decide +kernel) (by decide +kernel)
  (by first|exact .inl (by decide +kernel)|exact .inr (by decide +kernel)) (by rw[isSubtype_type];rfl')
theorem entry_get:entryFor table "bytearray.__getitem__"=some Builtin.«bytearray.__getitem__»:=entryFor_of_tree (by rfl')
theorem args_get(a b:Value):argsOk "bytearray.__getitem__" ⟨[a,b],[]⟩:=by
 unfold argsOk;rw[signature?_of (id:="bytearray.__getitem__") (n:=['_','_','m','e','t','i','t','e','g','_','_']) (o:=['y','a','r','r','a','e','t','y','b']) (by rfl') owner_ba];rfl'
theorem slot_set:Slot "bytearray" "__setitem__" "bytearray.__setitem__" :=
 .of (owner:="bytearray") (n:="__setitem__") (by rw[qX,qT];rfl') (by decide +kernel) (by decide +kernel) (by decide +kernel)
  (by first|exact .inl (by decide +kernel)|exact .inr (by decide +kernel)) (by rw[isSubtype_type];rfl')
theorem entry_set:entryFor table "bytearray.__setitem__"=some Builtin.«bytearray.__setitem__»:=entryFor_of_tree (by rfl')
theorem args_set(a b v:Value):argsOk "bytearray.__setitem__" ⟨[a,b,v],[]⟩:=by
 unfold argsOk;rw[signature?_of (id:="bytearray.__setitem__") (n:=['_','_','m','e','t','i','t','e','s','_','_']) (o:=['y','a','r','r','a','e','t','y','b']) (by rfl') owner_ba];rfl'
theorem slot_app:Slot "bytearray" "append" "bytearray.append" :=
 .of (owner:="bytearray") (n:="append") (by rw[qX,qT];rfl') (by decide +kernel) (by decide +kernel) (by decide +kernel)
  (by first|exact .inl (by decide +kernel)|exact .inr (by decide +kernel)) (by rw[isSubtype_type];rfl')
theorem entry_app:entryFor table "bytearray.append"=some Builtin.«bytearray.append»:=entryFor_of_tree (by rfl')
theorem args_app(a b:Value):argsOk "bytearray.append" ⟨[a,b],[]⟩:=by
 unfold argsOk;rw[signature?_of (id:="bytearray.append") (n:=['d','n','e','p','p','a']) (o:=['y','a','r','r','a','e','t','y','b']) (by rfl') owner_ba];rfl'
end LB
section
variable {A:Around} {E:Value->Shared->Prop} {s:Shared}
theorem Cl_id{id:String}{args:Args}(h:Cl (.builtin id args)=true):badIds.contains id=false:=by
 have h:(!badIds.contains id)=true:=h
 rwa [Bool.not_eq_true'] at h
theorem Cl_dec{id:String}{args:Args}(h:Cl (.builtin id args)=true):Builtin.Bytes.decodersThatHold.contains id=false:=by
 have h:=Cl_id h;unfold badIds at h;rw[List.contains_append,Bool.or_eq_false_iff] at h;exact h.1
theorem lq{v:Value}{Q:Bool->Shared->Prop}(q:Q false s):wpAny M A (Builtin.Bytes.exported v) Q E s:=by
 revert q;revert A E s v Q;refine @al5 _ _ _ _ _ zA aN zS zV aN ?P ((?f:∀a b c d e,?P a b c d e) _ _ _ _ _);intro A E s v Q q Γ p a b d;refine(?_:Q (((Γ.code,p)::Γ.below).any _) s);rw[List.any_eq_false.mpr]
 .exact q
 .intro x m;have h:Cl x.1=true:=(List.mem_cons.mp m).elim (λe=>by rw[e];exact b) λm=>d x m;rw[Bool.not_eq_true];obtain⟨code,pp⟩:=x;cases code with
  | builtin id args =>
   have ne:∀i,badIds.contains i=true->id≠i:=λi h' e=>by rw[<-e,Cl_id h] at h';cases h'
   obtain⟨pos,kw⟩:=args;delta Builtin.Bytes.exported.match_1;refine Eq.trans (dif_neg (ne "bytearray.__contains__" (by decide))) ?_;refine Eq.trans (dif_neg (ne "bytearray.__mod__" (by decide))) ?_;refine Eq.trans (dif_neg (ne "bytearray.__rmod__" (by decide))) ?_;refine Eq.trans (dif_neg (ne "_struct.pack_into.held" (by decide))) ?_;refine Eq.trans (dif_neg (ne "bytearray.find.held" (by decide))) ?_;cases pos with
   | nil=>rfl
   | cons w _=>exact(qF (Builtin.Bytes.sameRef w v&&·) (Cl_dec h)).trans (Bool.and_false _)
  | _=>rfl
end
end
section
section
variable {A:Around} {E:Value->Shared->Prop} {s:Shared}
theorem ba_len{a:Addr}{bs:List UInt8}{Q:Fin->Shared->Prop}(e:s.heap.get? a=some (ak bs))(q:Q (.done (.ret (.int bs.length s.toks))) {s with toks:=s.toks+1}):PySem.wpAny M A (Builtin.«bytearray.__len__» ⟨[.ref a],[]⟩) Q E s:=by
 unfold Builtin.«bytearray.__len__»;wp_walk;exact q
theorem len_barr{a:Addr}{bs:List UInt8}{Q:Value->Shared->Prop}(e:s.heap.get? a=some (ak bs))(hn:bs.length<=1000000)(q:∀t k,Q (.int bs.length t) {s with toks:=k}):wpAny M A (call (.builtin "len") [.ref a]) Q E s :=
 lw<|call_len_slot (T:="bytearray") ⟨_,e,rfl⟩ LB.slot_len (λQ' hq=>r8 LB.slot_len ⟨_,e,rfl⟩ LB.entry_len (ba_len e ⟨_,rfl,hq⟩) (LB.args_len _)) (by lia) (by lia) (q _ _)
theorem len_bytes{bs:List UInt8}{u:Tok}{Q:Value->Shared->Prop}(hn:bs.length<=1000000)(q:∀t k,Q (.int bs.length t) {s with toks:=k}):wpAny M A (call (.builtin "len") [.bytes ⟨bs⟩ u]) Q E s :=
 lw<|PySem.W.len_bytes (show(Array.mk bs).size<=_ from by show bs.length<=_;lia) (q _ _)
theorem len_list{a:Addr}{vs:List Value}{n:Nat}{Q:Value->Shared->Prop}(e:s.heap.get? a=some (aM vs n))(hn:vs.length<=1000000)(q:∀t k,Q (.int vs.length t) {s with toks:=k}):wpAny M A (call (.builtin "len") [.ref a]) Q E s :=
 lw<|Calls.call_len_list (items:=vs.toArray) ⟨_,e,rfl,_,rfl⟩ (by simp only[List.size_toArray];lia) (by simpa using q _ _)
theorem md:typeLookup (.type "bytearray") "__buffer__"=pure (some (.builtin "bytearray.__buffer__")):=by rw[qX,qT];rfl'
theorem ma:typeLookup (.type "bytearray") "__release_buffer__"=pure (some (.builtin "bytearray.__release_buffer__")):=by rw[qX,qT];rfl'
theorem ml:isSubtype (.type "bytearray") (.type "bytearray")=pure true:=by rw[isSubtype_type];rfl'
theorem ba_own{n:String}{v:Value}{Q:Bool->Shared->Prop}(hT:s.TypeIs v "bytearray")(hl:typeLookup (.type "bytearray") (n:Str)=pure (some (.builtin ("bytearray."++n))))
  (h1:("bytearray."++n).endsWith ("."++n)=true) (h2:("bytearray."++n).dropRight (n.length+1)="bytearray") (q:Q true s):PySem.wpAny M A (Builtin.Bytes.slotIsOwn v n) Q E s:=by
 unfold Builtin.Bytes.slotIsOwn;refine qA (qR hT hl ?_);refine(?_:PySem.wpAny M A (if(!("bytearray."++n).endsWith ("."++n))=true then _ else _) _ _ _);rw[h1,if_neg (by decide),h2];exact wpAny_isInstance hT ml q
theorem own_buf{v:Value}{Q:Bool->Shared->Prop}(hT:s.TypeIs v "bytearray")(q:Q true s):PySem.wpAny M A (Builtin.Bytes.slotIsOwn v "__buffer__") Q E s:=ba_own hT md (by decide +kernel) (by decide +kernel) q
theorem gN{v:Value}{Q:Bool->Shared->Prop}(hT:s.TypeIs v "bytearray")(q:Q false s):PySem.wpAny M A (Builtin.Bytes.ownRelease v) Q E s:=by
 unfold Builtin.Bytes.ownRelease;exact qA (ba_own hT ma (by decide +kernel) (by decide +kernel) (qB q))
theorem d_{id:String}{f:Bool}{a:Addr}{bs:List UInt8}{Q:Option (Array UInt8)->Shared->Prop}(e:s.heap.get? a=some (ak bs))(q:Q (some ⟨bs⟩) s):PySem.wpAny M A (Builtin.Bytes.buffer? id (.ref a) f) Q E s:=by
 exists e q,zA A,aN E,zS s,zg id,zB f,zN a,zL bs,aN Q;have hT:s.TypeIs (.ref a) "bytearray":=⟨_,e,rfl⟩;have l1:=md;have l2:=ma;refine qA (qR hT l1 (qA (own_buf hT (qA (qR hT l1 (qA (gN hT ?_)))))));wp_walk;exact q
theorem nr{id:String}{a:Addr}{bs:List UInt8}{Q:Option (Array UInt8)->Shared->Prop}(e:s.heap.get? a=some (ak bs))(q:Q (some ⟨bs⟩) s):PySem.wpAny M A (Builtin.Bytes.bufferQuiet? id (.ref a)) Q E s:=by
 unfold Builtin.Bytes.bufferQuiet?;exact qA (PySem.wpAny_attempt (d_ e (qB q)))
theorem dK:∀x y:List UInt8,dZ x y=(x==y)
 | [],[]=>rfl
 | [],_::_=>rfl
 | _::_,[]=>rfl
 | a::x,b::y=>by
  refine(?_:(match Nat.beq a.toNat b.toNat with|true=>dZ x y|false=>false)=((a==b)&&(x==y)));have:(a==b)=Nat.beq a.toNat b.toNat:=by
   cases z:Nat.beq a.toNat b.toNat with
   | true=>rw[beq_iff_eq];exact UInt8.toNat_inj.mp (qH z)
   | false=>exact beq_false_of_ne λe=>Nat.ne_of_beq_eq_false z (qF _ e)
  refine(this).symm▸?_;refine(dK x y).symm▸?_;cases Nat.beq a.toNat b.toNat<;>rfl
theorem ba_eq{a b:Addr}{x y:List UInt8}{Q:Fin->Shared->Prop}(e:s.heap.get? a=some (ak x))(e':s.heap.get? b=some (ak y))(q:Q (.done (.ret (.bool (dZ x y)))) s):PySem.wpAny M A (Builtin.«bytearray.__eq__» ⟨[.ref a,.ref b],[]⟩) Q E s:=by
 show PySem.wpAny M A (do
  let some p <-Builtin.Bytes.buffer? s!"bytearray.{"__eq__"}" (.ref a) | unsupported "internal:bytearray.compare"
  let some q <-Builtin.Bytes.bufferQuiet? s!"bytearray.{"__eq__"}" (.ref b) | rule s!"bytearray.{"__eq__"}.declined"; ret .notImplemented
  ret (.bool (Builtin.Bytes.holds "__eq__" (Builtin.Bytes.order p.toList q.toList)))) Q E s
 exact qA (d_ e (qA (nr e' (qB (by
  show Q (.done (.ret (.bool (Builtin.Bytes.order x y==.eq)))) s;rw[order_eq,<-dK];exact q)))))
theorem l_barr{a b:Addr}{x y:List UInt8}{Q:Value->Shared->Prop}(hu:A.units+200<=cLine)(e:s.heap.get? a=some (ak x))(e':s.heap.get? b=some (ak y))(q:Q (.bool (dZ x y)) s):wpAny M A (compareOp .Eq (.ref a) (.ref b)) Q E s :=
 lw<|wpAny_richCompare_same_room (T:="bytearray") (op:=.Eq) ⟨_,e,rfl⟩ ⟨_,e',rfl⟩ LB.slot_eq (r8 LB.slot_eq ⟨_,e,rfl⟩ LB.entry_eq (ba_eq e e' ⟨_,rfl,λz=>(nomatch z),q⟩) (LB.args_eq _ _)) (by lia)
end
end
section
section
variable {A:Around} {E:Value->Shared->Prop} {s:Shared}
theorem ne_empty{K:Type}[DecidableEq K]{knd:KeyKind prog w0 K}{a b:Addr}{Q:Value->Shared->Prop}(ha:(a==sysModules)=false)(hb:(b==sysModules)=false)(hu:A.units+200<=cLine)
  (da:s.heap.DictOf knd a []) (db:s.heap.DictOf knd b []) (q:Q (.bool false) s):PySem.wpAny M A (compareOp .NotEq (.ref a) (.ref b)) Q E s:=keq_ne (r:=true) ha hb da db (by lia) (λ_=>.nil) q
end
end
section
section
variable {A:Around} {E:Value->Shared->Prop} {s:Shared}
theorem c8{a:Addr}{bs bs':List UInt8}{f:Array UInt8->Array UInt8}{Q:Unit->Shared->Prop}(e:s.heap.get? a=some (ak bs))(hf:f ⟨bs⟩=⟨bs'⟩)(hl:bs'.length<=1048576)(q:∀h',h'.get? a=some (ak bs')->Heap.SameBut a s.heap h'->Q () {s with heap:=h'}):
  PySem.wpAny M A (Builtin.Bytes.write (.ref a) f) Q E s:=by
 refine qA (PySem.wpAny_load e ?_);have k:Obj.mapBytearray f (ak bs)=ak bs':=by rw[show Obj.mapBytearray f (ak bs)={cls:=.type "bytearray",data:=.bytearray (f ⟨bs⟩) 0} from rfl,hf]
 have g:(s.heap.update a (Obj.mapBytearray f)).get? a=some (ak bs'):=by rw[<-k];exact r5 _ e rfl
 refine qA (wpAny_update e ?_);refine wpAny_lookBehind g ?_ (q _ g (qY ..));show(if bs'.length > sizeLine then some "bytearray:memory" else none)=none;rw[if_neg (by unfold sizeLine;lia)]
theorem dW{i:Int}{t:Tok}{Q:Int->Shared->Prop}(q:Q i s):PySem.wpAny M A (asIndex (.int i t)) Q E s:=by
 unfold asIndex;wp_walk;exact q
theorem l7{i:Int}{t:Tok}{b:UInt8}{Q:UInt8->Shared->Prop}(h:cg i=some b)(q:Q b s):PySem.wpAny M A (Builtin.Bytes.byteValue (.int i t)) Q E s:=by
 exists h q,zA A,aN E,zS s,zI i,zN t,zu b,aN Q;unfold Builtin.Bytes.byteValue;have h0:0<=i/\i<256/\b=i.toNat.toUInt8:=by
  unfold cg at h;cases z:decide (0<=i) with
  | false=>rw[z] at h;cases h
  | true=>cases z':decide (i<256) with
   | false=>rw[z,z'] at h;cases h
   | true=>rw[z,z'] at h;cases h;exact⟨qD z,qD z',rfl⟩
 refine qA (dW ?_);refine(?_:PySem.wpAny M A (if(decide (i<0)||decide (i ≥ 256))=true then _ else _) _ _ _);exists (by simp;lia);refine(h0.2.2)▸?_;exact qB q
theorem iW{i:Int}{t:Tok}{Q:Option Int->Shared->Prop}(h:i.natAbs<2 ^ 62)(q:Q (some i) s):PySem.wpAny M A (Builtin.Bytes.subscript? (.int i t)) Q E s:=by
 unfold Builtin.Bytes.subscript?;refine qA (qR (typeIs_int s i t) F.slot_int_index.lookup ?_);refine qA (dW ?_);refine(?_:PySem.wpAny M A (if(!Builtin.Bytes.fitsIndex i)=true then _ else _) _ _ _);refine(show Builtin.Bytes.fitsIndex i=true by unfold Builtin.Bytes.fitsIndex;simp;omega).symm▸?_;exact qB q
theorem d8{a:Addr}{bs:List UInt8}{Q:Array UInt8->Shared->Prop}(e:s.heap.get? a=some (ak bs))(q:Q ⟨bs⟩ s):PySem.wpAny M A (Builtin.Bytes.payload (.ref a)) Q E s:=by
 unfold Builtin.Bytes.payload;wp_walk;exact q
theorem ba_set{a:Addr}{bs:List UInt8}{k i:Int}{t t':Tok}{j:Nat}{b:UInt8}{Q:Fin->Shared->Prop}(e:s.heap.get? a=some (ak bs))(hk:iX k (Mine.len bs)=some j)(hi:cg i=some b)(hl:bs.length<=1000000)
  (q:∀h',h'.get? a=some (ak (setn b j bs))->Heap.SameBut a s.heap h'->Q (.done (.ret .none)) {s with heap:=h'}):PySem.wpAny M A (Builtin.«bytearray.__setitem__» ⟨[.ref a,.int k t,.int i t'],[]⟩) Q E s:=by
 exists e hk hi hl q,zA A,aN E,zS s,zN a,zL bs,zI k,zI i,zN t,zN t',zN j,zu b,aN Q;have hi2:=(cD hk).1;refine qA (m:=Builtin.Bytes.subscript? (.int k t)) (iW hi2 ?_);refine qA (m:=Builtin.Bytes.byteValue (.int i t')) (l7 hi ?_);refine qA (m:=Builtin.Bytes.payload (.ref a)) (d8 e ?_);have hs:seqIndex? k (Array.mk bs).size=some j:=by have:=gU hk;rw[len_eq] at this;exact this
 refine(hs).symm▸?_;refine qA (c8 (bs':=setn b j bs) e (by rw[jG];simp) (by rw[jG,List.length_set];lia) λh' g sb=>qB (q h' g sb))
theorem l_bset{ad:Addr}{bs:List UInt8}{k i:Int}{t t':Tok}{j:Nat}{b:UInt8}{Q:Unit->Shared->Prop}(e:s.heap.get? ad=some (ak bs))(hk:iX k (Mine.len bs)=some j)(hi:cg i=some b)(hl:bs.length<=1000000)
  (q:∀h',h'.get? ad=some (ak (setn b j bs))->Heap.SameBut ad s.heap h'->∀n,Q () {s with heap:=h',toks:=n}):wpAny M A (setItem (.ref ad) (.int k t) (.int i t')) Q E s:=by
 refine lw ?_;unfold setItem;refine PySem.wpAny_holding (qA (wpAny_sequenceKey (T:="bytearray") ⟨_,e,rfl⟩ (by decide) ?_));refine qA (PySem.wpAny_callSpecial?_slot (T:="bytearray") (name:=Str.ofString "__setitem__") ⟨_,e,rfl⟩ LB.slot_set (r8 LB.slot_set ⟨_,e,rfl⟩ LB.entry_set (ba_set e hk hi hl λh' g sb=>⟨_,rfl,qB (q h' g sb s.toks)⟩) (LB.args_set _ _ _)))
end
end
section
theorem pb(n:Nat)(i:Int):clipAt n i<=n:=by unfold clipAt;omega
theorem lo_le(n:Nat)(o:Option Int):o.elim 0 (clipAt n)<=n:=by cases o;exact r0 _;exact pb _ _
theorem hi_le(n:Nat)(o:Option Int):o.elim n (clipAt n)<=n:=by cases o;exact qW _;exact pb _ _
theorem g9(a b:Nat):sliceRange a b 1=(List.range (b - a)).map (a+·):=by
 unfold sliceRange;simp only[show((1:Int) > 0)=True from by simp,if_true];by_cases h:(a:Int)<b
 .rw[if_pos h,show(((b:Int) - a+1 - 1) / 1).toNat=b - a by lia];exact List.map_congr_left λk _=>by lia
 .rw[if_neg h,show b - a=0 by lia];rfl
theorem strIdx(lo hi:Option Int)(n:Nat):Builtin.Str.strSliceIndices lo hi 1 n=sliceRange ((lo.elim 0 (clipAt n):Nat):Int) ((hi.elim n (clipAt n):Nat):Int) 1:=by
 revert lo hi n;refine @al3 _ _ _ zO zO zN ?P ((?f:∀a b c,?P a b c) _ _ _);intro lo hi n;cases lo<;>cases hi<;>simp[Builtin.Str.strSliceIndices,clipAt_cast]
theorem pick{α:Type}(l:List α)(a b:Nat)(hb:b<=l.length):((List.range (b - a)).map (a+·)).filterMap (l[·]?)=(l.drop a).take (b - a):=by
 by_cases h:a<=b
 .exact StrLaws.picks l (b - a) a (by lia)
 .rw[show b - a=0 by lia];simp
section
variable {A:Around} {E:Value->Shared->Prop} {s:Shared}
theorem kF{v:Value}{o:Option Int}(h:IsPart v o):∃p:Option (Int×Tok),v=partValue p/\p.map (·.1)=o:=by
 cases h with
 | none=>exact⟨none,rfl,rfl⟩
 | int i t=>exact⟨some (i,t),rfl,rfl⟩
set_option tactic.hygienic true in
theorem l_str{cs:List Nat}{t:Tok}{sl:Addr}{vl vu:Value}{lo hi:Option Int}{Q:Value->Shared->Prop}(hs:s.heap.IsSliceOf sl vl vu .none)(pl:IsPart vl lo)(pu:IsPart vu hi)(hl:cs.length<=1000000)
  (q:∀t n,Q (.str ⟨(bG lo hi cs).toArray⟩ t) {s with toks:=n}):wpAny M A (getItem (.str ⟨cs.toArray⟩ t) (.ref sl)) Q E s:=by
 refine nn λno=>?_;obtain⟨l,rfl,rfl⟩:=kF pl;obtain⟨u,rfl,rfl⟩:=kF pu;refine no ?_;refine lw<|getItem_meets (typeIs_str s _ t) (by decide) F.slot_str_getitem F.entry_str_getitem (F.args_str_getitem_2 _ _) (meets_str_getitem_slice ⟨cs.toArray⟩ t sl l u none rfl) ⟨hs,?_⟩;have key:(slicePicked ⟨cs.toArray⟩ l u none).filterMap (cs.toArray[·]?)=bG (l.map (·.1)) (u.map (·.1)) cs:=by
  show(Builtin.Str.strSliceIndices (l.map (·.1)) (u.map (·.1)) 1 cs.length).filterMap _=_;rw[strIdx,g9,bG,cU,<-pick cs _ _ (hi_le cs.length _)];simp only[List.getElem?_toArray]
 unfold sliceMade;split
 .rename_i h;have full:(slicePicked ⟨cs.toArray⟩ l u none).length=cs.length:=by
   simp only[Bool.and_eq_true] at h;exact eq_of_beq h.2
  have:bG (l.map (·.1)) (u.map (·.1)) cs=cs:=by
   have hlen:(slicePicked ⟨cs.toArray⟩ l u none).length=((u.map (·.1)).elim cs.length (clipAt cs.length)) - ((l.map (·.1)).elim 0 (clipAt cs.length)):=by
    show(Builtin.Str.strSliceIndices (l.map (·.1)) (u.map (·.1)) 1 cs.length).length=_;rw[strIdx,g9,qG,List.length_range]
   rw[full] at hlen;have h1:=hi_le cs.length (u.map (·.1));have h0:(l.map (·.1)).elim 0 (clipAt cs.length)=0:=by
    by_cases z:cs.length=0
    .have:=lo_le cs.length (l.map (·.1));lia
    .lia
   rw[bG,cU,h0,List.drop_zero,List.take_of_length_le (by lia)]
  have:=q t s.toks;rw[‹bG _ _ cs=cs›] at this;exact this
 .have:=q s.toks (s.toks+1);rw[<-key] at this;refine⟨?_,this⟩;show(((slicePicked ⟨cs.toArray⟩ l u none).filterMap (cs.toArray[·]?)).toArray).size<=sizeLine;rw[key,List.size_toArray,bG,cU,List.length_take,List.length_drop];unfold sizeLine;lia
theorem iK{a:Addr}{l u:Value}{lo hi:Option Int}{Q:Value×Value×Value->Shared->Prop}(hs:s.heap.IsSliceOf a l u .none)(pl:IsPart l lo)(pu:IsPart u hi)(q:Q (rawPart lo,rawPart hi,rawPart none) s):PySem.wpAny M A (Builtin.Bytes.sliceParts (.ref a)) Q E s:=by
 refine nn λno=>?_;obtain⟨o,ho,hc,hd⟩:=hs;refine no ?_;have part:∀{v:Value} {p:Option Int} {R:Value->Shared->Prop},IsPart v p->R (rawPart p) s->PySem.wpAny M A (do
   if v==.none then return .none
   if(<-specialOf v "__index__").isNone then
    rule "bytes.slice.part-no-index";raiseError "TypeError" "slice indices must be integers or None or have an __index__ method"
   return rawInt (<-asIndex v):Sem Value) R E s:=by
  intro v p R h r;cases h with
  | none=>exact qB r
  | int i t =>
   refine qA (m:=specialOf (.int i t) "__index__") (qR (typeIs_int s i t) F.slot_int_index.lookup ?_);exact qA (m:=asIndex (.int i t)) (dW (qB r))
 refine qA (wpAny_field (x:=.none) ho hd rfl (qA (part .none ?_)));refine qA (m:=field (.ref a) 0) (wpAny_field (x:=l) ho hd rfl (qA (part pl ?_)));exact qA (m:=field (.ref a) 1) (wpAny_field (x:=u) ho hd rfl (qA (part pu (qB q))))
theorem fc{a:Addr}{l u:Value}{Q:Option Int->Shared->Prop}(hs:s.heap.IsSliceOf a l u .none)(q:Q none s):PySem.wpAny M A (Builtin.Bytes.subscript? (.ref a)) Q E s:=by
 refine nn λno=>?_;obtain⟨o,ho,hc,hd⟩:=hs;refine no ?_;exact qA (qR (T:="slice") ⟨o,ho,hc⟩ slice_no_index (qB q))
theorem ba_get{a sl:Addr}{bs:List UInt8}{l u:Value}{lo hi:Option Int}{Q:Fin->Shared->Prop}(e:s.heap.get? a=some (ak bs))(hs:s.heap.IsSliceOf sl l u .none)(pl:IsPart l lo)(pu:IsPart u hi)(hl:bs.length<=1000000)
  (q:Q (.done (.ret (.ref s.heap.objs.size))) {s with heap:=s.heap.push (ak (bG lo hi bs))}):PySem.wpAny M A (Builtin.«bytearray.__getitem__» ⟨[.ref a,.ref sl],[]⟩) Q E s:=by
 have hT:s.TypeIs (.ref sl) "slice":=let⟨o,ho,hc,_⟩:=hs;⟨o,ho,hc⟩
 unfold Builtin.«bytearray.__getitem__»;refine qA (m:=slotArgs "__getitem__" 1 ⟨[.ref a,.ref sl],[]⟩) (qB ?_);refine qA (m:=Builtin.Bytes.subscript? (.ref sl)) (fc hs ?_);refine qA (m:=typeOf (.ref sl)) (wpAny_typeOf hT ?_);refine qA (m:=Builtin.Bytes.sliceParts (.ref sl)) (iK hs pl pu ?_);refine qA (m:=Builtin.Bytes.payload (.ref a)) (d8 e ?_);refine qA (m:=sliceIndices (rawPart lo) (rawPart hi) (rawPart none) (Array.mk bs).size) (qV (sliceIndices_raw lo hi none _ λz=>nomatch z) ?_);have key:Builtin.Bytes.sliced (Array.mk bs) (sliceBounds lo hi none (Array.mk bs).size).1 (sliceBounds lo hi none (Array.mk bs).size).2.1 (sliceBounds lo hi none (Array.mk bs).size).2.2=⟨bG lo hi bs⟩:=by
  rw[sliceBounds_plain];unfold Builtin.Bytes.sliced;simp only[g9];rw[bG,cU,pick_run];rfl
 refine(?_:PySem.wpAny M A (Builtin.Bytes.newBytearray (Builtin.Bytes.sliced (Array.mk bs) (sliceBounds lo hi none (Array.mk bs).size).1 (sliceBounds lo hi none (Array.mk bs).size).2.1 (sliceBounds lo hi none (Array.mk bs).size).2.2)>>=λv=>ret v) Q E s);rw[key];refine qA (wpAny_newObj_type (qB q) ?_);refine(?_:(bG lo hi bs).length<=sizeLine);rw[bG,cU,List.length_take,List.length_drop];unfold sizeLine;lia
theorem kT{bs:List UInt8}{ad sl:Addr}{vl vu:Value}{lo hi:Option Int}{Q:Value->Shared->Prop}(e:s.heap.get? ad=some (ak bs))(hs:s.heap.IsSliceOf sl vl vu .none)(pl:IsPart vl lo)(pu:IsPart vu hi)(hl:bs.length<=1000000)
  (q:∀n,Q (.ref s.heap.objs.size) {s with heap:=s.heap.push (ak (bG lo hi bs)),toks:=n}):k9 A (.ref ad) (.ref sl) Q E s :=
 ⟨"bytearray",_,⟨_,e,rfl⟩,LB.slot_get.lookup,lw<|wpAny_getItem_slot (T:="bytearray") ⟨_,e,rfl⟩ (by decide) LB.slot_get (r8 LB.slot_get ⟨_,e,rfl⟩ LB.entry_get (ba_get e hs pl pu hl ⟨_,rfl,q s.toks⟩) (LB.args_get _ _))⟩
end
end
section
theorem pU(n:Nat):sliceRange ((n:Int) - 1) (-1) (-1)=(List.range n).reverse:=by
 unfold sliceRange;have c:(if(-1:Int) > 0 then(if(n:Int) - 1 < -1 then(-1 - ((n:Int) - 1)+-1 - 1) / -1 else 0) else(if(n:Int) - 1 > -1 then((n:Int) - 1 - -1 - -1 - 1) / (- -1) else 0))=n:=by
  rw[if_neg (by decide),show(- -1:Int)=1 from rfl,Int.ediv_one];split<;>lia
 rw[c];refine List.ext_getElem (by simp) λi h1 h2=>?_;simp at h1 ⊢;lia
theorem pick_rev(l:List Value):slicePick l.toArray none none (some (-1))=l.reverse.toArray:=by
 show((sliceRange ((l.length:Int) - 1) (-1) (-1)).filterMap (l.toArray[·]?)).toArray=l.reverse.toArray;rw[pU,List.filterMap_reverse];have:=pick l 0 l.length (qW _);simp at this;simp[this]
section
variable {A:Around} {E:Value->Shared->Prop} {s:Shared}
theorem l_rev{vs:List Value}{k:Nat}{ad sl:Addr}{t:Tok}{Q:Value->Shared->Prop}(e:s.heap.get? ad=some (aM vs k))(hs:s.heap.IsSliceOf sl .none .none (.int (-1) t))(hl:vs.length<=1000000)
  (q:Q (.ref s.heap.objs.size) {s with heap:=s.heap.push {cls:=.type "list",data:=.seq vs.reverse.toArray}}):wpAny M A (getItem (.ref ad) (.ref sl)) Q E s :=
 lw<|wpAny_getItem_list_slice (items:=vs.toArray) ⟨_,e,rfl,_,rfl⟩ hs .none .none (.int (-1) t) (by decide) (by rw[pick_rev];exact q) (by simp only[List.size_toArray];unfold sizeLine;lia)
end
end
section
section
variable {A:Around} {E:Value->Shared->Prop} {s:Shared}
theorem ifn{α:Type}{c:Bool}{a b:Sem α}{Q:α->Shared->Prop}(hc:c=false)(h:wpAny M A b Q E s):wpAny M A (if c=true then a else b) Q E s:=by
 rw[hc];exact h
theorem iG{T newId initId:String}{Bi:Builtin}{args:List Value}{Q Q₁:Value->Shared->Prop}(ft:TypeCalled T newId initId)
  (hct:checkTypeCall T ⟨args,[]⟩=pure ()) (entryI:entryFor table initId=some Bi) (hcl:badIds.contains initId=false)
  (hnew:af M A.in1 (.call (.builtin newId) ⟨.type T::args,[]⟩) (wants Q₁ E) s)
  (hnext:∀obj rj,Q₁ obj rj->rj.TypeIs obj T/\argsOk initId ⟨obj::args,[]⟩ /\
   wpAny M A.in1.in1 (Bi ⟨obj::args,[]⟩) (λfin s'=>match fin with|.done f=>wants (λr ry=>r=.none/\Q obj ry) E (.ok f) s'|.again c'=>c'.quiet=true/\af M A.in1 c' (wants (λr ry=>r=.none/\Q obj ry) E) s')
    (λe s'=>wants (λr ry=>r=.none/\Q obj ry) E (.error e) s') rj):wpAny M A (call (.type T) args) Q E s:=by
 exists Bi ft hct entryI hcl hnew hnext,zA A,aN E,zS s,zg T,zg newId,zg initId,zL args,aN Q,aN Q₁;obtain⟨c,tl,hmro⟩:=ft.mro;refine aZ (aq ?_);refine(?_:wpAny _ _ (callAny (.type T) _) _ _ _);refine a7 ⟨Code.quiet_builtin _ (by decide +kernel),ce F.entry_type_call ?_⟩;refine(Around.under_plain (weight_type_call_type T args []) rfl).symm▸?_;refine ifn ft.notType (ifn ft.canCreate ?_);refine a0 (hct.symm▸a7 ?_);refine a0 (hmro.symm▸a7 (ifn rfl ?_));refine a0 (ft.made.symm▸a7 (a0 (a7 ?_)));refine a0 (ac (aZ (bo hnew λr rj hr=>?_)));cases r with
 | error e=>exact hr
 | ok fl =>
  cases fl with
  | ret obj =>
   obtain⟨hT,hok,hsi⟩:=hnext _ _ hr;refine a0 (lw (wpAny_isInstance hT ft.sub ?_));refine ifn rfl ?_;refine a0 (ac (aC hT ft.init (aZ (bo (c7 ft.init.plain entryI (gB ft.init hT hok hsi) hcl) λsC ry sV=>?_))));cases sC with
   | error e=>exact sV
   | ok tE =>
    cases tE with
    | ret r =>
     obtain⟨rfl,hq⟩:=sV;exact a7 hq
    | _=>exact sV.elim
  | _=>exact hr.elim
namespace LB
theorem mro_ba:mroOf (.type "bytearray")=pure [.type "bytearray",.type "object"]:=by rw[mroOf_type];rfl'
theorem mN:typeLookup (.type "bytearray") "__new__"=pure (some (.builtin "bytearray.__new__")):=by rw[qX,qT];rfl'
theorem pQ:Slot "bytearray" "__init__" "bytearray.__init__" :=
 .of (owner:="bytearray") (n:="__init__") (by rw[qX,qT];rfl') (by decide +kernel) (by decide +kernel) (by decide +kernel)
  (by first|exact .inl (by decide +kernel)|exact .inr (by decide +kernel)) (by rw[isSubtype_type];rfl')
theorem entry_init:entryFor table "bytearray.__init__"=some Builtin.«bytearray.__init__»:=entryFor_of_tree (by rfl')
theorem called:TypeCalled "bytearray" "bytearray.__new__" "bytearray.__init__" :=
 ⟨by decide +kernel,by decide +kernel,⟨_,_,mro_ba⟩,madeBy_type mro_ba mN (by decide +kernel),by decide +kernel,by rw[isSubtype_type];rfl',pQ⟩
theorem typeCall0:checkTypeCall "bytearray" ⟨[],[]⟩=pure ():=by rfl'
theorem typeCall1(a:Value):checkTypeCall "bytearray" ⟨[a],[]⟩=pure ():=by rfl'
theorem newCall0:checkBuiltinCall "bytearray.__new__" ⟨[.type "bytearray"],[]⟩=pure ():=by rfl'
theorem newCall1(a:Value):checkBuiltinCall "bytearray.__new__" ⟨[.type "bytearray",a],[]⟩=pure ():=by rfl'
theorem plain_new:plainId "bytearray.__new__"=true:=by decide +kernel
theorem entry_new:entryFor table "bytearray.__new__"=some Builtin.«list.__new__»:=entryFor_alias (id':="list.__new__") (by rfl') (by decide +kernel) (by rfl') (by rfl')
end LB
end
end
section
set_option maxRecDepth 1000000 in
set_option maxHeartbeats 4000000 in
theorem pY:("bytearray.__new__".splitOn ".__new__").headD ""="bytearray":=by simp +decide [String.splitOn,String.splitOnAux]
section
variable {A:Around} {E:Value->Shared->Prop} {s:Shared}
theorem code_new{args:List Value}{Q:Value->Shared->Prop}(hc:checkBuiltinCall "bytearray.__new__" ⟨.type "bytearray"::args,[]⟩=pure ())
  (q:Q (.ref s.heap.objs.size) {s with heap:=s.heap.push (ak [])}):PySem.codeAny M A (.call (.builtin "bytearray.__new__") ⟨.type "bytearray"::args,[]⟩) (wants Q E) s:=by
 exists hc q,zA A,aN E,zS s,zL args,aN Q;refine PySem.codeAny_of_tree ?_;refine(?_:PySem.wpAny _ A.in1 (do checkBuiltinCall "bytearray.__new__" ⟨.type "bytearray"::args,[]⟩;again (.builtin "bytearray.__new__" ⟨.type "bytearray"::args,[]⟩)) _ _ s);refine qA (qV hc (qB ⟨plainId_quiet LB.plain_new _,codeAny_builtin_stack LB.entry_new rfl λp st=>?_⟩));refine(Around.under_plainId LB.plain_new _).symm▸?_;have hsub:=ml;have hown:=pY;obtain⟨hp,g,d,tk,os⟩:=s;simp only[hown];wp_walk;exact q
theorem dS{D:Addr}{bs:List UInt8}{Q:Bool->Shared->Prop}(e:s.heap.get? D=some (ak bs))(q:Q false s):wpAny M A (Builtin.Bytes.exported (.ref D) <||> do return decide ((<-Builtin.Bytes.exportsOf (.ref D)) > 0)) Q E s:=by
 refine a0 (lq ?_);refine(?_:wpAny M A (do return decide ((<-Builtin.Bytes.exportsOf (.ref D)) > 0)) Q E s);refine a0 ?_;exact a0 (bU e (a7 (a7 q)))
theorem opt0:Builtin.Bytes.bindOptional "bytearray.__init__" "bytearray" ["source","encoding","errors"] [] []=pure [none,none,none]:=rfl
theorem opt1(v:Value):Builtin.Bytes.bindOptional "bytearray.__init__" "bytearray" ["source","encoding","errors"] [v] []=pure [some v,none,none]:=rfl
theorem ba_init0{D:Addr}{Q:Fin->Shared->Prop}(e:s.heap.get? D=some (ak []))(q:∀h',Heap.SameBut D s.heap h'->h'.get? D=some (ak [])->Q (.done (.ret .none)) {s with heap:=h'}):wpAny M A (Builtin.«bytearray.__init__» ⟨[.ref D],[]⟩) Q E s:=by
 exists e q,zA A,aN E,zS s,zN D,aN Q;unfold Builtin.«bytearray.__init__»;refine a0 (m:=Builtin.Bytes.ownRelease (.ref D)) (lw (gN (⟨_,e,rfl⟩) ?_));exists (by decide);refine(opt0).symm▸?_;refine a0 (a7 (a0 (a7 (a0 (a7 (a0 (dS e ?_)))))));exists (by decide);refine a0 (lw (c8 (bs':=[]) e rfl (by decide) λh' g sb=>?_));exact a0 (a7 (a7 (q h' sb g)))
theorem qv(i:Int)(t:Tok):asStr? (.int i t)=pure none:=rfl
theorem ba_initI{D:Addr}{i:Int}{n:Nat}{t:Tok}{Q:Fin->Shared->Prop}(hi:i=n)(e:s.heap.get? D=some (ak []))(hn:n<=65536)(q:∀h',Heap.SameBut D s.heap h'->h'.get? D=some (ak (List.replicate n 0))->Q (.done (.ret .none)) {s with heap:=h'}):wpAny M A (Builtin.«bytearray.__init__» ⟨[.ref D,.int i t],[]⟩) Q E s:=by
 exists hi e hn q,zA A,aN E,zS s,zN D,zI i,zN n,zN t,aN Q;unfold Builtin.«bytearray.__init__»;refine a0 (m:=Builtin.Bytes.ownRelease (.ref D)) (lw (gN (⟨_,e,rfl⟩) ?_));exists (by decide);rw[opt1];refine a0 (a7 (a0 (a7 (a0 (a7 (a0 (dS e ?_)))))));exists (by decide);refine a0 (lw (c8 (bs':=[]) e rfl (by decide) λh' g sb=>?_));refine lw ?_
 try dsimp only
 rw[qv,pure_bind];simp only[Option.isSome_none,Bool.false_eq_true,if_false,pure_bind];refine qA (qR (typeIs_int _ i t) F.slot_int_index.lookup ?_);refine qA (PySem.wpAny_attempt (dW ?_));exists (by unfold Builtin.Bytes.fitsIndex;simp;lia);exists (by lia);exists (by simp;lia);exists (by unfold Builtin.Bytes.tooLong sizeLine;simp;lia);refine qA (PySem.wpAny_rule ?_);by_cases z:n=0
 .subst z;exists (by lia);exact qB (q h' sb g)
 .exists (by lia),();refine qA (c8 (bs':=List.replicate n 0) g (by rw[hi];simp) (by simp;lia) λh'' g' sb'=>qB ?_);exact q h'' (sb.trans sb') g'
theorem lO{D:Addr}{v:Value}{bs:List UInt8}{Q:Fin->Shared->Prop}(e:s.heap.get? D=some (ak []))(hl:bs.length<=1000000)
  (hv:∀s':Shared,Heap.SameBut D s.heap s'.heap->(∃T,s'.TypeIs v T/\typeLookup (.type T) "__index__"=pure none)/\∀(R:Option (Array UInt8)->Shared->Prop),R (some ⟨bs⟩) s'->PySem.wpAny M A (Builtin.Bytes.buffer? "bytearray.__init__" v true) R E s') (hs:∀s':Shared,Heap.SameBut D s.heap s'.heap->∀(R:Option Str->Shared->Prop),R none s'->PySem.wpAny M A (asStr? v) R E s')
  (q:∀h',Heap.SameBut D s.heap h'->h'.get? D=some (ak bs)->Q (.done (.ret .none)) {s with heap:=h'}):wpAny M A (Builtin.«bytearray.__init__» ⟨[.ref D,v],[]⟩) Q E s:=by
 exists e hl hv hs q,zA A,aN E,zS s,zN D,zV v,zL bs,aN Q;unfold Builtin.«bytearray.__init__»;refine a0 (m:=Builtin.Bytes.ownRelease (.ref D)) (lw (gN (⟨_,e,rfl⟩) ?_));exists (by decide);rw[opt1];refine a0 (a7 (a0 (a7 (a0 (a7 (a0 (dS e ?_)))))));exists (by decide);refine a0 (lw (c8 (bs':=[]) e rfl (by decide) λh' g sb=>?_));refine lw ?_;obtain⟨⟨T,hT,hi⟩,hb⟩:=hv {s with heap:=h'} sb;refine qA (m:=asStr? v) (hs {s with heap:=h'} sb _ ?_);exists (by decide);refine qA (qB (qA (qR hT hi ?_)));exists (by decide);refine qA (hb _ ?_);refine qA (PySem.wpAny_rule (qA (c8 (bs':=bs) g rfl (by lia) λh'' g' sb'=>qB ?_)));exact q h'' (sb.trans sb') g'
end
end
section
theorem iI:typeLookup (.type "bytes") "__index__"=pure none:=by rw[qX,qT];rfl'
theorem iL:typeLookup (.type "bytearray") "__index__"=pure none:=by rw[qX,qT];rfl'
theorem gl:typeLookup (.type "bytes") "__buffer__"=pure (some (.builtin "bytes.__buffer__")):=by rw[qX,qT];rfl'
theorem by_rel:typeLookup (.type "bytes") "__release_buffer__"=pure none:=by rw[qX,qT];rfl'
theorem by_sub:isSubtype (.type "bytes") (.type "bytes")=pure true:=by rw[isSubtype_type];rfl'
theorem dO{h h':Heap}{o:Obj}{a:Addr}{x:Obj}(sb:Heap.SameBut h.objs.size (h.push o) h')(e:h.get? a=some x):h'.get? a=some x:=sb.extBut a x (q_ (qZ e)) (qE _ e)
section
variable {A:Around} {E:Value->Shared->Prop} {s:Shared}
theorem jt{id:String}{f:Bool}{b:Array UInt8}{t:Tok}{Q:Option (Array UInt8)->Shared->Prop}(q:Q (some b) s):PySem.wpAny M A (Builtin.Bytes.buffer? id (.bytes b t) f) Q E s:=by
 revert q;revert A E s id f b t Q;refine @al8 _ _ _ _ _ _ _ _ zA aN zS zg zB za zN aN ?P ((?f:∀a b c d e f g h,?P a b c d e f g h) _ _ _ _ _ _ _ _);intro A E s id f b t Q q;have hT:=typeIs_bytes s b t;refine qA (qR hT gl (qA ?_));refine qA (qR hT gl ?_);refine(?_:PySem.wpAny M A (if(!"bytes.__buffer__".endsWith ("."++"__buffer__"))=true then _ else _) _ _ _);rw[show "bytes.__buffer__".endsWith ("."++"__buffer__")=true by decide +kernel,if_neg (by decide),show "bytes.__buffer__".dropRight ("__buffer__".length+1)="bytes" by decide +kernel];refine wpAny_isInstance hT by_sub (qA (qR hT gl (qA ?_)));refine qA (qA (qR hT by_rel (qB (qB ?_))));exact qA (m:=Builtin.Bytes.payload (.bytes b t)) (qV (a:=b) rfl (qB q))
theorem g_{args:List Value}{bs:List UInt8}{Q:Value->Shared->Prop}(hct:checkTypeCall "bytearray" ⟨args,[]⟩=pure ())(hnc:checkBuiltinCall "bytearray.__new__" ⟨.type "bytearray"::args,[]⟩=pure ())(hok:∀D,argsOk "bytearray.__init__" ⟨.ref D::args,[]⟩)
  (hi:∀{R:Fin->Shared->Prop},(∀h',Heap.SameBut s.heap.objs.size (s.heap.push (ak [])) h'->h'.get? s.heap.objs.size=some (ak bs)->R (.done (.ret .none)) {s with heap:=h'})->wpAny M A.in1.in1 (Builtin.«bytearray.__init__» ⟨.ref s.heap.objs.size::args,[]⟩) R E {s with heap:=s.heap.push (ak [])})
  (q:∀D h' k,Idle s.heap h'->s.heap.objs.size<=D->h'.get? D=some (ak bs)->Q (.ref D) {s with heap:=h',toks:=k}):wpAny M A (call (.type "bytearray") args) Q E s:=by
 refine iG (Q₁:=λobj rj=>obj=.ref s.heap.objs.size/\rj={s with heap:=s.heap.push (ak [])}) LB.called hct LB.entry_init (by decide) (lc (code_new hnc ⟨rfl,rfl⟩)) λobj rj z=>?_;obtain⟨rfl,rfl⟩:=z;refine⟨⟨_,qK _ rfl,rfl⟩,hok _,ag (hi λh' sb g=>?_) (λ_ _ z=>z) λ_ _ e=>e⟩;refine⟨rfl,q _ h' s.toks ⟨λb o e=>dO sb e,?_⟩ (qW _) g⟩;rw[sb.1];simp
theorem ba_args0(a:Value):argsOk "bytearray.__init__" ⟨[a],[]⟩:=by
 unfold argsOk;rw[signature?_of (id:="bytearray.__init__") (n:=['_','_','t','i','n','i','_','_']) (o:=['y','a','r','r','a','e','t','y','b']) (by rfl') LB.owner_ba];rfl'
theorem iN(a b:Value):argsOk "bytearray.__init__" ⟨[a,b],[]⟩:=by
 unfold argsOk;rw[signature?_of (id:="bytearray.__init__") (n:=['_','_','t','i','n','i','_','_']) (o:=['y','a','r','r','a','e','t','y','b']) (by rfl') LB.owner_ba];rfl'
variable {Q:Value->Shared->Prop}
theorem l_barr0(q:∀D h' k,Idle s.heap h'->s.heap.objs.size<=D->h'.get? D=some (ak [])->Q (.ref D) {s with heap:=h',toks:=k}):wpAny M A (call (.type "bytearray") []) Q E s :=
 g_ LB.typeCall0 LB.newCall0 (λ_=>ba_args0 _) (λr=>ba_init0 (qK _ rfl) r) q
theorem l_barrI{n:Nat}{t:Tok}(hn:n<=65536)(q:∀D h' k,Idle s.heap h'->s.heap.objs.size<=D->h'.get? D=some (ak (List.replicate n 0))->Q (.ref D) {s with heap:=h',toks:=k}):wpAny M A (call (.type "bytearray") [.int n t]) Q E s :=
 g_ (LB.typeCall1 _) (LB.newCall1 _) (λ_=>iN _ _) (λr=>ba_initI rfl (qK _ rfl) hn r) q
theorem oQ{bs:List UInt8}{t:Tok}(hl:bs.length<=1000000)(q:∀D h' k,Idle s.heap h'->s.heap.objs.size<=D->h'.get? D=some (ak bs)->Q (.ref D) {s with heap:=h',toks:=k}):wpAny M A (call (.type "bytearray") [.bytes ⟨bs⟩ t]) Q E s :=
 g_ (LB.typeCall1 _) (LB.newCall1 _) (λ_=>iN _ _) (λr=>lO (qK _ rfl) hl (λs' _=>⟨⟨_,typeIs_bytes _ _ _,iI⟩,λR r=>jt r⟩) (λs' _ R r=>qV (a:=none) rfl r) r) q
theorem l_barrA{a:Addr}{bs:List UInt8}(e:s.heap.get? a=some (ak bs))(hl:bs.length<=1000000)(q:∀D h' k,Idle s.heap h'->s.heap.objs.size<=D->h'.get? D=some (ak bs)->Q (.ref D) {s with heap:=h',toks:=k}):wpAny M A (call (.type "bytearray") [.ref a]) Q E s :=
 g_ (LB.typeCall1 _) (LB.newCall1 _) (λ_=>iN _ _) (λr=>lO (qK _ rfl) hl
  (λs' sb=>⟨⟨"bytearray",⟨_,dO sb e,rfl⟩,iL⟩,λR r=>d_ (dO sb e) r⟩) (λs' sb R r=>qA (PySem.wpAny_load (dO sb e) (qB r))) r) q
end
end
section
theorem qo:isSubtype (.type "bytes") (.type "bytearray")=pure false:=by rw[isSubtype_type];rfl'
theorem qn:isSubtype (.type "bytes") (.type "complex")=pure false:=by rw[isSubtype_type];rfl'
theorem by_noint:typeLookup (.type "bytes") "__int__"=pure none:=by rw[qX,qT];rfl'
theorem nk:typeLookup (.type "bytes") "__float__"=pure none:=by rw[qX,qT];rfl'
section
variable {A:Around} {E:Value->Shared->Prop} {s:Shared}
theorem or_false{a b:Sem Bool}{Q:Bool->Shared->Prop}(h:wpAny M A a (λr s'=>r=false/\wpAny M A b Q E s') E s):wpAny M A (a <||> b) Q E s:=by
 unfold orM;refine seq h λr s' z=>?_;obtain⟨rfl,z⟩:=z;exact z
theorem lN{ad sl:Addr}{bs w':List UInt8}{vl vu:Value}{lo hi:Option Int}{t:Tok}{x y:Nat}{Q:Fin->Shared->Prop}
  (e:s.heap.get? ad=some (ak bs)) (hs:s.heap.IsSliceOf sl vl vu .none) (pl:IsPart vl lo) (pu:IsPart vu hi) (hx:x=lo.elim 0 (clipAt bs.length)) (hy:y=hi.elim bs.length (clipAt bs.length)) (hxy:x+w'.length=y) (hl:bs.length<=1000000)
  (q:∀rC h',(∀b o,s.heap.get? b=some o->rC.get? b=some o)->s.heap.objs.size<=rC.objs.size->h'.get? ad=some (ak (bs.take x++(w'++bs.drop y)))->Heap.SameBut ad rC h'->∀n,Q (.done (.ret .none)) {s with heap:=h',toks:=n}) :
  wpAny M A (Builtin.«bytearray.__setitem__» ⟨[.ref ad,.ref sl,.bytes ⟨w'⟩ t],[]⟩) Q E s:=by
 exists e hs pl pu hx hy hxy hl q,zA A,aN E,zS s,zN ad,zN sl,zL bs,zL w',zV vl,zV vu,zO lo,zO hi,zN t,zN x,zN y,aN Q;have hT:s.TypeIs (.ref sl) "slice":=let⟨o,ho,hc,_⟩:=hs;⟨o,ho,hc⟩
 have hb:=typeIs_bytes s ⟨w'⟩ t;have hyl:y<=bs.length:=by rw[hy];exact hi_le _ _
 refine a0 (m:=Builtin.Bytes.subscript? (.ref sl)) (lw (fc hs ?_));refine a0 (m:=typeOf (.ref sl)) (lw (wpAny_typeOf hT ?_));refine a0 (m:=Builtin.Bytes.sliceParts (.ref sl)) (lw (iK hs pl pu ?_));refine a0 (m:=isInstance (.bytes ⟨w'⟩ t) (.type "bytearray")) (lw (wpAny_isInstance hb qo ?_));exists (by decide),();refine a0 (or_false (a0 (lw (qR hb iI (a7 ⟨rfl,?_⟩)))));refine or_false (a0 (lw (qR hb by_noint (a7 ⟨rfl,?_⟩))));refine or_false (a0 (lw (qR hb nk (a7 ⟨rfl,?_⟩))));refine lw (wpAny_isInstance hb qn ?_);refine a0 (m:=asStr? (.bytes ⟨w'⟩ t)) (bv (a:=none) rfl ?_);exists (by decide);have hw:w'.length<=1000000:=by lia
 refine a0 (ba (a0 (oQ hw λD rC k hi' hD g=>?_)));have rR:rC.IsSliceOf sl vl vu .none:=let⟨o,ho,hc⟩:=hs;⟨o,hi'.keep _ _ ho,hc⟩
 refine a0 (ac (lw (iK rR pl pu ?_)));refine a0 (lw (d8 g ?_));have rP:=hi'.keep _ _ e;refine a0 (lw (d8 rP ?_));refine a0 (m:=sliceIndices (rawPart lo) (rawPart hi) (rawPart none) (Array.mk bs).size) (bv (sliceIndices_raw lo hi none _ λz=>nomatch z) ?_);rw[sliceBounds_plain];rw[show lo.elim 0 (clipAt (Array.mk bs).size)=x from hx.symm,show hi.elim (Array.mk bs).size (clipAt (Array.mk bs).size)=y from hy.symm];exists (by rfl),();refine a0 (ba ?_);exists (by simp;lia);refine a0 (lw (c8 (bs':=bs.take x++(w'++bs.drop y)) rP ?_ ?_ λh' g' sb=>a7 (q rC h' hi'.keep hi'.size g' sb k)))
 .rw[show(max (x:Int) (y:Int)).toNat=y by lia];apply Array.ext';simp[List.extract_eq_drop_take];rw[List.take_of_length_le (by simp)]
 .simp;lia
theorem l_bslice{ad sl:Addr}{bs w':List UInt8}{vl vu:Value}{lo hi:Option Int}{t:Tok}{x y:Nat}{Q:Unit->Shared->Prop}
  (e:s.heap.get? ad=some (ak bs)) (hs:s.heap.IsSliceOf sl vl vu .none) (pl:IsPart vl lo) (pu:IsPart vu hi) (hx:x=lo.elim 0 (clipAt bs.length)) (hy:y=hi.elim bs.length (clipAt bs.length)) (hxy:x+w'.length=y) (hl:bs.length<=1000000)
  (q:∀rC h',(∀b o,s.heap.get? b=some o->rC.get? b=some o)->s.heap.objs.size<=rC.objs.size->h'.get? ad=some (ak (bs.take x++(w'++bs.drop y)))->Heap.SameBut ad rC h'->∀n,Q () {s with heap:=h',toks:=n}) :
  wpAny M A (setItem (.ref ad) (.ref sl) (.bytes ⟨w'⟩ t)) Q E s:=by
 unfold setItem;refine ac (a0 (lw (wpAny_sequenceKey (T:="bytearray") ⟨_,e,rfl⟩ (by decide) ?_)));exact a0 (aC (T:="bytearray") (name:=Str.ofString "__setitem__") ⟨_,e,rfl⟩ LB.slot_set (aY LB.slot_set ⟨_,e,rfl⟩ LB.entry_set (lN e hs pl pu hx hy hxy hl λrC h' k1 k2 g sb n=>⟨_,rfl,a7 (q rC h' k1 k2 g sb n)⟩) (LB.args_set _ _ _)))
end
end
theorem g0{M:Model}{Γ:Ctx}{p:Pos}{t:Sem PySem.Fin}{fs:List Frame}{s:Shared}{e:End}{s':Shared}(h:Runs M Γ p t fs s e s'):s.heap.objs.size<=s'.heap.objs.size:=by
 have gen:∀(s:Shared) (g:Nat) (x:GenState),(s.setGen g x).heap=s.heap:=λ_ _ _=>rfl
 induction h with
 | done=>exact qW _
 | raise=>exact qW _
 | yield=>exact qW _
 | update _ _ ih=>exact qC (by simp) ih
 | alloc _ ih=>exact qC (by simp) ih
 | call _ _ i1 i2=>exact qC i1 i2
 | segRet _ _ i1 i2=>exact qC i1 i2
 | segGen _ _ i1 i2=>exact qC i1 i2
 | segSuspGen _ _ _ _ i1 i2=>exact qC i1 i2
 | resumeFresh _ _ _ _ i1 i2=>exact qC i1 i2
 | resumeSuspended _ _ _ _ i1 i2=>exact qC i1 i2
 | _=>assumption
theorem lX{M:Model}{Γ:Ctx}{p:Pos}{g:Nat}{r:Resume}{s:Shared}{res:GenResult}{s':Shared}(h:Wakes M Γ p g r s res s'):s.heap.objs.size<=s'.heap.objs.size:=by
 exists M Γ r res h,zP p,zN g,zS s,zS s';unfold Wakes at h;split at h
 .exact h.elim
 .split at h
  .obtain⟨e,rj,h1,_,_,rfl⟩:=h;have y:=g0 h1;exact y
  .rw[h.2];exact qW _
  .rw[h.2];exact qW _
 .obtain⟨e,rj,h1,_,_,rfl⟩:=h;have y:=g0 h1;exact y
 .rw[h.2];exact qW _
 .rw[h.2];exact qW _
theorem nY{α:Type}(M:Model)(Γ:Ctx)(n:Nat):∀(t:Sem α) {Q:α->Pos->Shared->Prop} {E:Value->Pos->Shared->Prop} {p:Pos} {s:Shared},n<=s.heap.objs.size->Sem.wp M Γ t Q E p s->Sem.wp M Γ t (λa p s'=>Q a p s'/\n<=s'.heap.objs.size) (λe p s'=>E e p s'/\n<=s'.heap.objs.size) p s:=by
 intro t
 induction t with
 | pure a=>intro Q E p s hn h;exact⟨h,hn⟩
 | raise e=>intro Q E p s hn h;exact⟨h,hn⟩
 | load a part k ih=>intro Q E p s hn h;obtain⟨o,e,h⟩:=h;exact⟨o,e,ih _ hn h⟩
 | update a part f k ih=>intro Q E p s hn h;exact⟨h.1,ih _ (by simpa using hn) h.2⟩
 | alloc o k ih=>intro Q E p s hn h;exact ih _ (by simp;lia) h
 | choose src n k ih=>intro Q E p s hn h;exact⟨h.1,ih _ hn h.2⟩
 | call c hd g l k ih=>intro Q E p s hn h;obtain⟨r,s',h1,h2⟩:=h;exact⟨r,s',h1,ih _ (qC hn (g0 h1)) h2⟩
 | genState g k ih=>intro Q E p s hn h;obtain⟨st,e,h⟩:=h;exact⟨st,e,ih _ hn h⟩
 | resume g r l k ih=>intro Q E p s hn h;obtain⟨res,s',h1,h2⟩:=h;exact⟨res,s',h1,ih _ (qC hn (lX h1)) h2⟩
 | unsupported _=>intro Q E p s hn h;exact h.elim
 | finish _=>intro Q E p s hn h;exact h.elim
 | register _ _ _=>intro Q E p s hn h;exact h.elim
 | yield _ _ _ _ _=>intro Q E p s hn h;exact h.elim
 | fork _ _ _=>intro Q E p s hn h;exact h.elim
 | await _ _ _ _ _ _=>intro Q E p s hn h;exact h.elim
 | rule _ k ih=>intro Q E p s hn h;exact ih _ hn h
 | «at» _ k ih=>intro Q E p s hn h;exact ih _ hn h
 | loadIfAlive _ k ih=>intro Q E p s hn h;exact ih _ hn h
 | point _ k ih=>intro Q E p s hn h;exact ih _ hn h
 | fresh k ih=>intro Q E p s hn h;exact ih _ hn h
 | ask k ih=>intro Q E p s hn h;exact ih _ hn h
 | os _ _ k ih=>intro Q E p s hn h;exact ih _ hn h
 | handled _ k ih=>intro Q E p s hn h;exact ih _ hn h
 | newGen _ k ih=>intro Q E p s hn h;exact ih _ hn h
 | stack k ih=>intro Q E p s hn h;exact ih _ hn h
 | thread k ih=>intro Q E p s hn h;exact ih _ hn h
theorem grow{α:Type}{A:Around}{t:Sem α}{Q:α->Shared->Prop}{E:Value->Shared->Prop}{s:Shared}(h:wpAny M A t Q E s):wpAny M A t (λa s'=>Q a s'/\s.heap.objs.size<=s'.heap.objs.size) (λe s'=>E e s'/\s.heap.objs.size<=s'.heap.objs.size) s :=
 λΓ p a b d=>nY M Γ _ t (qW _) (h Γ p a b d)
theorem grown{α:Type}{A:Around}{t:Sem α}{Q:α->Shared->Prop}{E:Value->Shared->Prop}{s:Shared}(h:wpAny M A t (λv s'=>s.heap.objs.size<=s'.heap.objs.size->Q v s') E s):wpAny M A t Q E s :=
 ag (grow h) (λ_ _ z=>z.1 z.2) λ_ _ z=>z.1
section
section
variable {A:Around} {E:Value->Shared->Prop} {s:Shared} {Q:Value->Shared->Prop}
theorem l_range1{b:Int}{t:Tok}(q:∀D h' k t u v,Idle s.heap h'->IsRange h' D 0 b 1 t u v->Q (.ref D) {s with heap:=h',toks:=k}):wpAny M A (call (.type "range") [.int b t]) Q E s :=
 lw<|call_range_1 (q _ _ _ _ _ _ (Idle.push _ _) (IsRange.new ..))
theorem l_range2{a b:Int}{t u:Tok}(q:∀D h' k t u v,Idle s.heap h'->IsRange h' D a b 1 t u v->Q (.ref D) {s with heap:=h',toks:=k}):wpAny M A (call (.type "range") [.int a t,.int b u]) Q E s :=
 lw<|call_range_2 (q _ _ _ _ _ _ (Idle.push _ _) (IsRange.new ..))
theorem l_listL{a:Addr}{vs:List Value}{n:Nat}(e:s.heap.get? a=some (aM vs n))(hl:vs.length<=1000000)(q:∀D h' k m,Idle s.heap h'->s.heap.objs.size<=D->h'.get? D=some (aM vs m)->Q (.ref D) {s with heap:=h',toks:=k}):wpAny M A (call (.type "list") [.ref a]) Q E s :=
 lw<|call_list_seq a (.inl rfl) e rfl rfl (λh' c k g=>q _ h' s.toks c ⟨k,Nat.le_of_lt (qZ g)⟩ (qW _) g) (by simp only[List.size_toArray];unfold sizeLine;lia)
theorem l_bytesL{a:Addr}{vs:List Value}{ns:List Int}{n:Nat}(hh:A.handled=none)(e:s.heap.get? a=some (aM vs n))(h1:IntsAre vs ns)(h2:∀n∈ns,0<=n/\n<256)(hl:vs.length<=1000000)
  (q:∀t h' k,Idle s.heap h'->Q (.bytes ⟨ns.map λn=>n.toNat.toUInt8⟩ t) {s with heap:=h',toks:=k}):wpAny M A (call (.type "bytes") [.ref a]) Q E s :=
 grown<|lw<|call_bytes_ints (vs:=vs) ⟨_,e,rfl,_,rfl⟩ h1 h2 (qC hl (by decide)) hh λh' t k keep sz=>q t h' k ⟨keep,sz⟩
theorem iM:typeLookup (.type "bytearray") "__bytes__"=pure none:=by rw[qX,qT];rfl'
theorem lF{a:Addr}{bs:List UInt8}{R:Value->Shared->Prop}(e:s.heap.get? a=some (ak bs))(hl:bs.length<=1000000)(q:∀t k,R (.bytes ⟨bs⟩ t) {s with toks:=k}):
  PySem.codeAny M A (.call (.builtin "bytes.__new__") ⟨[.type "bytes",.ref a],[]⟩) (wants R E) s:=by
 exists e hl q,zA A,aN E,zS s,zN a,zL bs,aN R;refine PySem.codeAny_of_tree ?_;refine(?_:PySem.wpAny _ A.in1 (do checkBuiltinCall "bytes.__new__" ⟨[.type "bytes",.ref a],[]⟩;again (.builtin "bytes.__new__" ⟨[.type "bytes",.ref a],[]⟩)) _ _ s);refine qA (qV (F.bm_newCall _) (qB ⟨plainId_quiet F.bm_plain _,PySem.codeAny_builtin F.bm_entry ?_⟩));have hT:s.TypeIs (.ref a) "bytearray":=⟨_,e,rfl⟩;unfold Builtin.«bytes.__new__»;refine qA (qV (a:=true) rfl ?_);refine bm_if_false rfl ?_;refine qA (qV F.bm_sub ?_);refine bm_if_false rfl ?_;refine qA (qV (F.bm_bind _) ?_);refine qA (qV (a:=()) rfl ?_);refine qA (qV (a:=()) rfl ?_);refine bm_if_false rfl ?_;refine qA (qR hT iM ?_);refine qA (qA ?_);refine(?_:PySem.wpAny _ _ (load a>>=_) _ _ _);refine qA (PySem.wpAny_load e ?_);refine qB (qB ?_);refine bm_if_false rfl ?_;refine qA (qR hT iL ?_);refine bm_if_true rfl ?_
 first
  | show PySem.wpAny _ _ (Builtin.Bytes.buffer? "bytes.__new__" (.ref a) true>>=_) _ _ _
  | (refine qA ?_;show PySem.wpAny _ _ (Builtin.Bytes.buffer? "bytes.__new__" (.ref a) true>>=_) _ _ _)
 refine qA (d_ e ?_);refine qA (PySem.wpAny_rule ?_);refine qA (wpAny_mkBytes ?_ (show bs.length<=sizeLine by unfold sizeLine;lia))
 first|exact qB (q _ _)|exact qB (qB (q _ _))|exact qA (qB (qB (q _ _)))
theorem l_bytesA{a:Addr}{bs:List UInt8}(e:s.heap.get? a=some (ak bs))(hl:bs.length<=1000000)(q:∀t h' k,Idle s.heap h'->Q (.bytes ⟨bs⟩ t) {s with heap:=h',toks:=k}):wpAny M A (call (.type "bytes") [.ref a]) Q E s:=by
 refine lw<|PySem.callType_codes (Q₁:=λobj rj=>rj.TypeIs obj "bytes"/\Q obj rj) F.bm_called (F.bm_typeCall _) F.entry_object_init (lF e hl λt k=>⟨typeIs_bytes _ _ _,q t s.heap k (Idle.refl _)⟩) λobj rj rC=>?_;exact⟨rC.1,F.args_object_init_2 obj _,object_init_meets F.bm_called.init.lookup F.bm_called.made (by decide) prog w0 A.in1 _ rj ⟨rC.1,rfl,rC.2⟩⟩
end
end
section
theorem iV:PlainAttrs "bytearray" :=
 ⟨⟨"bytearray.__getattribute__",by rw[qX,qT];rfl',by decide +kernel⟩,by rw[qX,qT];rfl'⟩
theorem type_app:typeOf (.builtin "bytearray.append")=pure (.type "method_descriptor"):=by show builtinType _=_;rw[builtinType_eq_fast];rfl'
theorem ja:Slot "bytes" "join" "bytes.join" :=
 .of (owner:="bytes") (n:="join") (by rw[qX,qT];rfl') (by decide +kernel) (by decide +kernel) (by decide +kernel)
  (by first|exact .inl (by decide +kernel)|exact .inr (by decide +kernel)) (by rw[isSubtype_type];rfl')
theorem pI:typeOf (.builtin "bytes.join")=pure (.type "method_descriptor"):=by show builtinType _=_;rw[builtinType_eq_fast];rfl'
section
variable {A:Around} {E:Value->Shared->Prop} {s:Shared} {pl:Sem Bool}
theorem m_listL{a:Addr}{vs:List Value}{n:Nat}{Q:Value×List Value->Shared->Prop}(e:s.heap.get? a=some (aM vs n))(q:Q (.builtin "list.append",[.ref a]) s):wpAny M A (getMethod (.ref a) "append" pl) Q E s :=
 lw<|Calls.getMethod_list_append e rfl rfl q
theorem m_barrL{a:Addr}{bs:List UInt8}{Q:Value×List Value->Shared->Prop}(e:s.heap.get? a=some (ak bs))(q:Q (.builtin "bytearray.append",[.ref a]) s):wpAny M A (getMethod (.ref a) "append" pl) Q E s :=
 lw<|getMethod_builtin (T:="bytearray") ⟨_,e,rfl⟩ iV LB.slot_app type_app (λb z=>by cases z;exact⟨_,e,rfl⟩) q
theorem m_joinL{v:Value}{b:Array UInt8}{t:Tok}{Q:Value×List Value->Shared->Prop}(ev:v=.bytes b t)(q:Q (.builtin "bytes.join",[v]) s):wpAny M A (getMethod v "join" pl) Q E s :=
 lw<|getMethod_builtin (T:="bytes") (by rw[ev];exact typeIs_bytes _ _ _) FB.plainAttrs_bytes ja pI (λb z=>by rw[ev] at z;cases z) q
theorem jq{a:Addr}{vs:List Value}{n:Nat}{v:Value}{Q:Value->Shared->Prop}(e:s.heap.get? a=some (aM vs n))(hl:vs.length<=1000000)
  (q:∀h' k m,Heap.SameBut a s.heap h'->h'.get? a=some (aM (vs++[v]) m)->Q .none {s with heap:=h',toks:=k}):wpAny M A (call (.builtin "list.append") [.ref a,v]) Q E s :=
 lw<|wpAny_list_append_plain (items:=vs.toArray) ⟨n,e⟩ (λh' ⟨m,g⟩ sb=>q h' s.toks m sb (by rw[g];simp)) (by simp only[List.size_toArray];unfold sizeLine;lia)
theorem iH(b:UInt8):cg (b.toNat:Int)=some b:=by
 have h:=b.toNat_lt;unfold cg;refine(show decide ((0:Int)<=(b.toNat:Int))=true from decide_eq_true (by lia)).symm▸?_;refine(show decide ((b.toNat:Int)<256)=true from decide_eq_true (by lia)).symm▸?_;simp
theorem nj{a:Addr}{bs:List UInt8}{b:UInt8}{t:Tok}{Q:Value->Shared->Prop}(e:s.heap.get? a=some (ak bs))(hl:bs.length<=1000000)
  (q:∀h' k,Heap.SameBut a s.heap h'->h'.get? a=some (ak (bs++[b]))->Q .none {s with heap:=h',toks:=k}):wpAny M A (call (.builtin "bytearray.append") [.ref a,.int (b.toNat:Int) t]) Q E s:=by
 refine aY LB.slot_app ⟨_,e,rfl⟩ LB.entry_app ?_ (LB.args_app _ _);refine a0 (m:=selfAndOne "bytearray.append" ⟨[.ref a,.int (b.toNat:Int) t],[]⟩) (a7 ?_);refine a0 (m:=Builtin.Bytes.byteValue (.int (b.toNat:Int) t)) (lw (l7 (iH b) ?_));refine a0 (m:=Builtin.Bytes.checkResize (.ref a)) ?_;refine a0 (dS e ?_);exists (by decide);refine a7 ?_;refine a0 (lw (c8 (bs':=bs++[b]) e (by simp) (by simp;lia) λh' g sb=>a7 ⟨_,rfl,q h' s.toks sb g⟩))
end
end
section
section
variable {A:Around} {E:Value->Shared->Prop} {s:Shared} {pl:Sem Bool}
theorem type_get:typeOf (.builtin "dict.get")=pure (.type "method_descriptor"):=by show builtinType _=_;rw[builtinType_eq_fast];rfl'
theorem oM{a:Addr}{o:Obj}{Q:Value×List Value->Shared->Prop}(e:s.heap.get? a=some o)(hc:o.cls=.type "dict")(hd:o.dict=none)(q:Q (.builtin "dict.get",[.ref a]) s):wpAny M A (getMethod (.ref a) "get" pl) Q E s :=
 lw<|getMethod_builtin (T:="dict") ⟨_,e,hc⟩ F.plainAttrs_dict F.slot_dict_get type_get (λb z=>by cases z;exact⟨_,e,hd⟩) q
theorem c_getL{κ:Type}[DecidableEq κ]{knd:KeyKind prog w0 κ}{a:Addr}{kvs:List (κ×Value)}{k:κ}{kv dv:Value}{Q:Value->Shared->Prop}(D:s.heap.DictOf knd a kvs)(ha:(a==sysModules)=false)(hk:knd.is k kv=true)
  (q:∀n,Q ((valueAt kvs k).getD dv) {s with toks:=n}):wpAny M A (call (.builtin "dict.get") [.ref a,kv,dv]) Q E s :=
 lw<|call_meetsIn F.slot_dict_get D.typeIs F.entry_dict_get (F.args_dict_get_3 _ _ _) (meets_dict_get_default knd a hk ha dv) ⟨_,D.mapOf,q _⟩
theorem m_tobL{v:Value}{i:Int}{t:Tok}{Q:Value×List Value->Shared->Prop}(ev:v=.int i t)(q:Q (.builtin "int.to_bytes",[v]) s):wpAny M A (getMethod v "to_bytes" pl) Q E s:=by
 subst ev;exact lw<|KTBy.method q
theorem mO:∀(n x:Nat) (b:List UInt8),b.map (λc=>((c.toNat:Nat):Int))=KTBy.little n (x:Int)->b=f5 n x
 | 0,x,b,h=>by cases b with|nil=>rfl|cons c r=>cases h
 | n+1,x,b,h=>by
  cases b with
  | nil=>cases h
  | cons c r =>
   have h:((c.toNat:Nat):Int)::r.map (λc=>((c.toNat:Nat):Int))=((x:Int) % 256)::KTBy.little n ((x:Int) / 256):=h;injection h with h1 h2
   have e:r=f5 n (x / 256):=mO n (x / 256) r (by rw[h2];rfl);have h1:c.toNat=x % 256:=by lia
   refine(?_:c::r=(x % 256).toUInt8::f5 n (x / 256));refine(e)▸?_;refine(h1)▸?_
   congr 1
   simp
theorem c_tobL{i:Int}{t u v:Tok}{Q:Value->Shared->Prop}(h0:0<=i)(h1:i<2 ^ 32)(q:∀t k,Q (.bytes ⟨f5 4 i.toNat⟩ t) {s with toks:=k}):wpAny M A (call (.builtin "int.to_bytes") [.int i t,.int 4 u,.str "little" v]) Q E s:=by
 refine lw<|KTBy.to_little (k:=4) (B:=4294967296) (by decide) (by decide) h0 (by lia) λb t' k' hb hl=>?_;obtain⟨n,rfl⟩:∃n:Nat,i=n:=⟨i.toNat,by lia⟩;have:=mO 4 n b.toList hb;have:=q t' k';rw[show((n:Int)).toNat=n from rfl,<-mO 4 n b.toList hb] at this;exact this
end
end
section
section
variable {A:Around} {E:Value->Shared->Prop} {s:Shared}
theorem i3:∀bs:List UInt8,bs.length=4->KFB.value ((bs.map λc=>((c.toNat:Nat):Int)).reverse)=(bn bs:Int)
 | [a,b,c,d],_=>by
  refine(?_:(((0*256+(d.toNat:Int))*256+(c.toNat:Int))*256+(b.toNat:Int))*256+(a.toNat:Int)=((a.toNat+256*(b.toNat+256*(c.toNat+256*(d.toNat+256*0))):Nat):Int));lia
theorem c_frombL{x:Addr}{bs:List UInt8}{t u:Tok}{Q:Value->Shared->Prop}(e:s.heap.get? x=some fT)(hl:bs.length=4)(q:∀t k,Q (.int (bn bs) t) {s with toks:=k}):wpAny M A (call (.ref x) [.bytes ⟨bs⟩ t,.str "little" u]) Q E s:=by
 refine lw<|KFB.call_of (z:=(bn bs:Int)) e (λ{P E' A'} z=>KFB.tree_little (by show bs.length<=8;lia) ?_) (q _ _);refine(show KFB.value (KBw.bInts ⟨bs⟩).reverse=(bn bs:Int) from i3 bs hl).symm▸?_;exact z
end
end
section
section
variable {A:Around} {E:Value->Shared->Prop} {s:Shared} {K:Frag} {pl:Sem Bool}
theorem m_frombK{Q:Value×List Value->Shared->Prop}(X:K.In s.heap)
  (e:findCls K (.type "int") (.type "type") (PySem.Str.ofString "from_bytes")=some (.get (.builtin "classmethod_descriptor.__get__") (.builtin "int.from_bytes") .none (.type "int")))
  (h:∀n,Q (.ref s.heap.objs.size,[]) {s with heap:=s.heap.push fT,toks:=n}):PySem.wpAny M A (getMethod (.type "int") (PySem.Str.ofString "from_bytes") pl) Q E s:=by
 have hstub:opaqueClassAbove (.type "int")=pure none:=by unfold opaqueClassAbove;dsimp only;rw[show Manifest.isStub "int"=false by decide +kernel];rfl
 have ht:typeOf (.type "int")=pure (.type "type"):=by first|rfl|rfl'
 have L0:Looks M s.heap (typeOf (.type "int")) (.type "type"):=Looks.of_pure ht;have hg:findIn K (.type "type") "__getattribute__"=some (some (.builtin "type.__getattribute__")):=type_tga;refine qA (qA (L0.here ((looks_findIn X hg).here ?_)));exists canon_tga,();refine qA (PySem.wpAny_mono (Q:=λv=>Q (v,[])) (E:=E) ?_ (λ_ _ z=>qB z) λ_ _ z=>z);have LO:Looks M s.heap (opaqueClassAbove (.type "int")) none:=Looks.of_pure hstub;refine cls_open X LO L0 hg (looks_hook X (r:=none) (by rfl)) (by show subIn K _ _=_;rfl) e ?_;show PySem.wpAny _ _ (holding [.builtin "int.from_bytes"] (call (.builtin "classmethod_descriptor.__get__") [.builtin "int.from_bytes",.none,.type "int"])>>=λv=>ret v) _ _ _;exact qA (PySem.wpAny_holding (r8 KFB.slot_get KFB.type_fb KFB.entry_get (KFB.run_get ⟨_,rfl,qB (qB (h _))⟩) (KFB.args_get _ _ _)))
end
end
section
section
variable {A:Around} {E:Value->Shared->Prop} {s:Shared} {K:Frag} {pl:Sem Bool}
theorem m_excK{Q:Value×List Value->Shared->Prop}(X:K.In s.heap)
  (e:findCls K (.type "Exception") (.type "type") (PySem.Str.ofString "__init__")=some (.val (.builtin "Exception.__init__")))
  (h:∀n,Q (.builtin "Exception.__init__",[]) {s with toks:=n}):PySem.wpAny M A (getMethod (.type "Exception") (PySem.Str.ofString "__init__") pl) Q E s:=by
 have hstub:opaqueClassAbove (.type "Exception")=pure none:=by unfold opaqueClassAbove;dsimp only;rw[show Manifest.isStub "Exception"=false by decide +kernel];rfl
 have ht:typeOf (.type "Exception")=pure (.type "type"):=by first|rfl|rfl'
 have L0:Looks M s.heap (typeOf (.type "Exception")) (.type "type"):=Looks.of_pure ht;have hg:findIn K (.type "type") "__getattribute__"=some (some (.builtin "type.__getattribute__")):=type_tga;refine qA (qA (L0.here ((looks_findIn X hg).here ?_)));exists canon_tga,();refine qA (PySem.wpAny_mono (Q:=λv=>Q (v,[])) (E:=E) ?_ (λ_ _ z=>qB z) λ_ _ z=>z);have LO:Looks M s.heap (opaqueClassAbove (.type "Exception")) none:=Looks.of_pure hstub;refine cls_open X LO L0 hg (looks_hook X (r:=none) (by rfl)) (by show subIn K _ _=_;rfl) e ?_;exact qB (qB (h _))
theorem m_clsK{C f:Addr}{name:Str}{Q:Value×List Value->Shared->Prop}(X:K.In s.heap)(h1:nsIn K cStatics "thirdparty.any"=some none)(h2:typeIn K (.ref C)=some (.type "type"))
  (e:findCls K (.ref C) (.type "type") name=some (.val (.ref f))) (h:∀n,Q (.ref f,[]) {s with toks:=n}):PySem.wpAny M A (getMethod (.ref C) name pl) Q E s:=by
 exists X h1 h2 e h,zA A,aN E,zS s,zL K,(zse zB) pl,zN C,zN f,zs name,aN Q;have LO:Looks M s.heap (opaqueClassAbove (.ref C)) none:=looks_opaque X h1;have L0:Looks M s.heap (typeOf (.ref C)) (.type "type"):=looks_typeIn X h2;have hg:findIn K (.type "type") "__getattribute__"=some (some (.builtin "type.__getattribute__")):=type_tga;refine qA (qA (L0.here ((looks_findIn X hg).here ?_)));exists canon_tga,();refine qA (PySem.wpAny_mono (Q:=λv=>Q (v,[])) (E:=E) ?_ (λ_ _ z=>qB z) λ_ _ z=>z);refine cls_open X LO L0 hg (looks_hook X (r:=none) (by rfl)) (by show subIn K _ _=_;rfl) e ?_;exact qB (qB (h _))
end
end
section
section
variable {A:Around} {E:Value->Shared->Prop} {s:Shared} {K:Frag}
theorem ji{C:Addr}{cd:ClassData}{ds:List DictEntry}{n:Nat}{name:Str}{en:DictEntry}(hc:clsIn K C=some cd)(hd:cd.hasDict=true)(hn:findIn K (.ref C) name=some none)(e:ds.find? (·.key.isStr name)=some en):
  findObj K C (some (dictOf ds n)) name=some (.value en.val):=by
 have ho:W.ownOf cd (some (dictOf ds n)) name=some (some en.val):=(if_pos hd).trans ((λr h=>by subst h;rfl':∀r,ds.find? (·.key.isStr name)=r->lookIn name (dictOf ds n)=r.elim (if ds.any (·.refKey) then none else some none) λe=>some (some e.val)) _ e);delta findObj;refine hc.symm▸?_;refine(?_:(findIn K (.ref C) name).bind _=_);refine hn.symm▸?_;refine(?_:(W.ownOf cd (some (dictOf ds n)) name).bind _=_);exact ho.symm▸rfl
theorem jv{x C ad:Addr}{ox:Obj}{ds:List DictEntry}{n:Nat}{en:DictEntry}{name:Str}{cd:ClassData}{ex:Bool}{Q:Value->Shared->Prop}(X:K.In s.heap)(hc:clsIn K C=some cd)(hd:cd.hasDict=true)(hn:findIn K (.ref C) name=some none)
  (hga:findIn K (.ref C) "__getattribute__"=some (some (.builtin "object.__getattribute__"))) (e:s.heap.get? x=some ox) (hC:ox.cls=.ref C) (ha:ox.dict=some ad) (hp:notCls ox=true) (e':s.heap.get? ad=some (dictOf ds n))
  (f:ds.find? (·.key.isStr name)=some en) (hh:handedIn en.val=true) (q:∀t,Q en.val {s with toks:=t}):PySem.wpAny M A (getAttr (.ref x) name ex) Q E s :=
 get_value (od:=some (dictOf ds n)) X ⟨e,hC,hp,by rw[ha];exact e'⟩ hga (ji hc hd hn f) hh (q _)
end
end
section
section
variable {A:Around} {E:Value->Shared->Prop} {s:Shared} {K:Frag} {pl:Sem Bool}
theorem ns_get{ad:Addr}{ds:List DictEntry}{n:Nat}{name:Str}{r:Option Value}{Q:Option Value->Shared->Prop}(e:s.heap.get? ad=some (dictOf ds n))(h:lookIn name (dictOf ds n)=some r)(q:Q r s):PySem.wpAny M A (nsGet ad name) Q E s:=by
 unfold nsGet;exact qA (wpAny_loadPart e (qV (nsLook_of h) q))
theorem q6{ds:List DictEntry}{n:Nat}{name:Str}(h:ds.find? (·.key.isStr name)=none)(hr:ds.any (·.refKey)=false):lookIn name (dictOf ds n)=some none:=by
 simp[lookIn,h,hr]
theorem m_instK{x C f ad:Addr}{ga:String}(hcan:Manifest.canonical ga="object.__getattribute__"){ox of:Obj}{ds:List DictEntry}{n:Nat}{name:Str}{Q:Value×List Value->Shared->Prop}(X:K.In s.heap)(e:s.heap.get? x=some ox)(hC:ox.cls=.ref C)(ha:ox.dict=some ad)(hp:notCls ox=true)(e':s.heap.get? ad=some (dictOf ds n))
  (hga:findIn K (.ref C) "__getattribute__"=some (some (.builtin ga))) (hgt:findIn K (.ref C) "__getattr__"=some none) (hf:findIn K (.ref C) name=some (some (.ref f))) (ef:s.heap.get? f=some of) (hfc:of.cls=.type "function")
  (h:ds.find? (·.key.isStr name)=none) (hr:ds.any (·.refKey)=false) (q:Q (.ref f,[.ref x]) s):PySem.wpAny M A (getMethod (.ref x) name pl) Q E s:=by
 exists pl hcan X e hC ha hp e' hga hgt hf ef hfc h hr q,zA A,aN E,zS s,zL K,zN x,zN C,zN f,zN ad,zg ga,zb ox,zb of,zL ds,zN n,zs name,aN Q;have I:InstAt s.heap x ox C (some (dictOf ds n)):=⟨e,hC,hp,by rw[ha];exact e'⟩;have L0:Looks M s.heap (typeOf (.ref x)) (.ref C):=I.type;refine qA (qA (L0.here ((looks_findIn X hga).here ?_)));exists (by rw[hcan];decide);refine qA (qA (L0.here ((looks_findIn X hgt).here ?_)));exists (by decide);refine qA (qA (L0.here ((looks_findIn X hf).here ?_)));refine qA (wpAny_typeOf (T:="function") ⟨_,ef,hfc⟩ ?_);exists (by decide);refine qA (wpAny_loadPart e ?_);rw[ha];refine qA (ns_get e' (q6 h hr) ?_);exists (by decide);exact qA (PySem.wpAny_rule (qB q))
end
end
section
section
variable {A:Around} {E:Value->Shared->Prop} {s:Shared} {K:Frag} {pl:Sem Bool}
theorem m_attrK{x C ad:Addr}{ox:Obj}{ds:List DictEntry}{n:Nat}{name:Str}{ga:String}{Q:Value×List Value->Shared->Prop}(hcan:Manifest.canonical ga="object.__getattribute__")(X:K.In s.heap)(hn:findIn K (.ref C) name=some none)
  (hga:findIn K (.ref C) "__getattribute__"=some (some (.builtin ga))) (hgt:findIn K (.ref C) "__getattr__"=some none) (e:s.heap.get? x=some ox) (hC:ox.cls=.ref C) (ha:ox.dict=some ad) (hp:notCls ox=true) (e':s.heap.get? ad=some (dictOf ds n))
  (eR:PySem.wpAny M A (getAttr (.ref x) name) (λv s'=>Q (v,[]) s') E s):PySem.wpAny M A (getMethod (.ref x) name pl) Q E s:=by
 exists E pl hcan X hn hga hgt e hC ha hp e' eR,zA A,zS s,zL K,zN x,zN C,zN ad,zb ox,zL ds,zN n,zs name,zg ga,aN Q;have I:InstAt s.heap x ox C (some (dictOf ds n)):=⟨e,hC,hp,by rw[ha];exact e'⟩;have L0:Looks M s.heap (typeOf (.ref x)) (.ref C):=I.type;refine qA (qA (L0.here ((looks_findIn X hga).here ?_)));exists (by rw[hcan];decide);refine qA (qA (L0.here ((looks_findIn X hgt).here ?_)));exists (by decide);refine qA (qA (L0.here ((looks_findIn X hn).here ?_)));exact qA (PySem.wpAny_mono eR (λ_ _ z=>qB z) λ_ _ z=>z)
end
end
section
section
variable {A:Around} {E:Value->Shared->Prop} {s:Shared} {K:Frag}
theorem gL(nm:Str)(hsh:Int)(k v:Value):∀ds:List DictEntry,(putL nm hsh k v ds).length<=ds.length+1
 | []=>qW _
 | e::r=>by
  unfold putL;split
  .simp
  .simp only[List.length_cons];have:=gL nm hsh k v r;omega
theorem qt{x C ad:Addr}{ox:Obj}{ds:List DictEntry}{n:Nat}{name:Str}{v:Value}{Q:Unit->Shared->Prop}(X:K.In s.heap)(e:s.heap.get? x=some ox)(hC:ox.cls=.ref C)(ha:ox.dict=some ad)(hno:notCls ox=true)(e':s.heap.get? ad=some (dictOf ds n))
  (hs:findIn K (.ref C) "__setattr__"=some (some (.builtin "object.__setattr__"))) (hp:plainOver K C=true) (ht:takerIn K C name=some none) (hh:hasDictIn K C=true)
  (hl:(ds.find? (·.key.isStr name)).isSome=true\/ds.any (·.refKey)=false) (hz:ds.length<=900)
  (q:∀t t',Q () {s with heap:=s.heap.update ad (Obj.putName name (PyData.keyHash w0.params name) (.str name t) v),toks:=t'}):PySem.wpAny M A (setAttr (.ref x) name v) Q E s:=by
 exists E X e hC ha hno e' hs hp ht hh hl hz q,zA A,zS s,zL K,zN x,zN C,zN ad,zb ox,zL ds,zN n,zs name,zV v,aN Q;have I:InstAt s.heap x ox C (some (dictOf ds n)):=⟨e,hC,hno,by rw[ha];exact e'⟩;refine set_plain X I hs (osa_open (s:={s with toks:=s.toks+1}) X I hp ht λb=>?_);refine nn λno=>?_;obtain⟨cd,hc,hd'⟩:=any_some hh;obtain⟨oc,odi,oda,osl⟩:=ox;refine no ?_;dsimp only at hC ha;subst hC ha;have D':∀t,(s.heap.update ad (Obj.putName name (PyData.keyHash w0.params name) (.str name t) v)).get? ad=some (dictOf (putL name (PyData.keyHash w0.params name) (.str name t) v ds) (putN name ds n)):=λt=>by
  rw[<-putName_dict];exact r5 _ e' (by rw[putName_dict];rfl)
 refine qA (qB (qA (qA (wpAny_loadPart e (qA (looks_clsIn (M:=M) (h:=s.heap) X hc _ _ _ _ (λ_ _ e=>e) ?_))))));refine(hd').symm▸?_;refine qB (a:=some ad) (qA (qB (qA ?_)));unfold nsSet;refine qA (qA (wpAny_askSetting (qB (qA (wpAny_mkText (qA (wpAny_loadPart e' ?_)))))));dsimp only;have c:(!ds.toArray.any (·.key.isStr name)&&ds.toArray.any (·.refKey))=false:=by
  rcases hl with hl|hl
  .refine nn λno=>?_;obtain⟨en,he⟩:=Option.isSome_iff_exists.mp hl;refine no ?_;rw[<-Array.any_toList,<-Array.any_toList,List.any_eq_true.mpr ⟨en,List.mem_of_find?_eq_some he,List.find?_some he⟩];rfl
  .refine(Array.any_toList (p:=λx:DictEntry=>x.refKey))▸?_;show(_&&ds.any _)=false;rw[hl,Bool.and_false]
 rw[aRefKeyMayBeTheName_at,c];refine wpAny_updatePart e' ?_;refine qA (wpAny_lookBehind (D' _) (pastItsLine_dict (by rw[List.size_toArray,sizeLine_eq];have:=gL name (PyData.keyHash w0.params name) (.str name (s.toks+1)) v ds;omega)) ?_);exact qB (q _ _)
end
end
section
theorem iZ:entryFor table "proto.unchain"=some Builtin.«proto.unchain»:=entryFor_of_tree (by rfl')
def Hn(A:Around)(h:Heap):Prop:=∀v,A.handled=some v->∃b ob vs C,v=.ref b/\h.get? b=some ob/\ob.cls=.ref C/\ob.data=.fields vs/\vs[2]?=some .none
theorem Hn.keep{A:Around}{h h':Heap}(x:Hn A h)(k:∀b o C,h.get? b=some o->o.cls=.ref C->h'.get? b=some o):Hn A h':=λv e =>
 let⟨b,ob,vs,C,e1,e2,e3,r⟩:=x v e;⟨b,ob,vs,C,e1,k b ob C e2 e3,e3,r⟩
theorem Stk.hn'{A:Around}{l:List Env}{y:Y}(k:Stk A l y):Hn A y.h:=λv e=>by
 cases k.hn v e with
 | mk a C ad w x =>
  obtain⟨ob,e,x⟩:=x;cases x with
  | mk vs t z h2=>exact⟨a,_,vs,C,rfl,e,rfl,rfl,h2⟩
def Grown(it:Addr)(h h':Heap):Prop:=Heap.ExtBut it h h'/\h.objs.size<=h'.objs.size
theorem Grown.refl(it:Addr)(h:Heap):Grown it h h:=⟨Heap.ExtBut.refl it h,qW _⟩
theorem Grown.of_same{it:Addr}{h h':Heap}(x:Heap.SameBut it h h'):Grown it h h':=⟨x.extBut,qU x.1.symm⟩
theorem Grown.trans{it:Addr}{h h' h'':Heap}(x:Grown it h h')(y:Grown it h' h''):Grown it h h'':=⟨x.1.trans y.1,qC x.2 y.2⟩
theorem Grown.push{it:Addr}{h:Heap}(o:Obj):Grown it h (h.push o):=⟨λ_ _ _ e=>qE _ e,by simp⟩
section
variable {A:Around} {s:Shared} {E:Value->Shared->Prop}
theorem kC{α:Type}{a:Addr}{o:Obj}{vs:Array Value}{Q:α->Shared->Prop}{T:String}(hn:Hn A s.heap)(ho:s.heap.get? a=some o)(hc:o.cls=.type T)(hd:o.data=.fields vs)(hz:2<vs.size)
  (h:∀h' o',h'.get? a=some o'->o'.cls=o.cls->Heap.SameBut a s.heap h'->E (.ref a) {s with heap:=h'}):PySem.wpAny M A (raiseNew (.ref a):Sem α) Q E s:=by
 exists α Q hn ho hc hd hz h,zA A,zS s,aN E,zN a,zb o,za vs,zg T;refine qA (PySem.wpAny_handled ?_);cases e:A.handled with
 | none=>exact qA (qB (PySem.wpAny_throw (h s.heap o ho rfl (Heap.SameBut.refl ..))))
 | some v =>
  obtain⟨b,ob,us,C,rfl,e1,e2,e3,e4⟩:=hn v e;have hne:b≠a:=λz=>by subst z;rw[e1] at ho;cases ho;rw[e2] at hc;cases hc
  exists (by simp[hne]),();have un:PySem.wpAny M (A.under (.builtin "proto.unchain" ⟨[.ref a,.ref b,.ref b,.bool false],[]⟩)) (Builtin.«proto.unchain» ⟨[.ref a,.ref b,.ref b,.bool false],[]⟩) (λfin s'=>fin=.done (.ret .none)/\s'=s) (λ_ _=>False) s:=by
   refine qA (m:=field (.ref b) 2) (PySem.wpAny_field e1 e3 e4 ?_);exact qB ⟨rfl,rfl⟩
  have fin:PySem.wpAny M A (updateField a 2 (.ref b)) (λ_ s'=>PySem.wpAny M A (throw (.ref a):Sem α) Q E s') E s:=by
   refine PySem.wpAny_setField (A:=A) (a:=a) ho hd hz (PySem.wpAny_throw ?_);exact h _ _ (r5 _ ho (Obj.isFreed_of_fields (Obj.data_mapFields hd _))) (Obj.cls_mapFields ..) (qY ..)
  have step:PySem.wpAny M A (runValue (.builtin "proto.unchain" ⟨[.ref a,.ref b,.ref b,.bool false],[]⟩)) (λ_ s'=>s'=s) E s:=by
   refine PySem.wpAny_runValue (PySem.codeAny_builtin iZ (PySem.wpAny_mono un (λfin s' z=>?_) λ_ _ z=>z.elim));obtain⟨rfl,rfl⟩:=z;rfl
  refine qA (PySem.wpAny_holding (PySem.wpAny_mono step (λ_ s' z=>?_) λ_ _ z=>z));subst z;exact qA fin
theorem f9{α:Type}{it:Addr}{s8:Heap}{Q:α->Shared->Prop}(hn:Hn A s.heap)(ext:Grown it s8 s.heap)
  (hQ:∀h',Grown it s8 h'->∀e,(∃o,h'.get? e=some o/\o.cls=.type "StopIteration")->E (.ref e) {s with heap:=h'}) :
  PySem.wpAny M A (do let e <-newExc (.type "StopIteration") [];raiseNew e:Sem α) Q E s:=by
 exists α Q hn ext hQ,zA A,zS s,aN E,zN it,zH s8;refine qA ?_;simp only[newExc,newTuple];refine qA (PySem.wpAny_newObj_type ?_ (by size_fits));refine qA (m:=firstArgMember _ _) (qV (a:=Value.none) (by first|rfl|(simp only[firstArgMember];rfl)) ?_);refine PySem.wpAny_newObj_type ?_ (by size_fits);refine kC (T:="StopIteration") (hn.keep λb o C e _=>qE _ (qE _ e)) (qK _ rfl) rfl rfl (show 2<6 by decide) λh' o' e1 e2 sb=>?_;refine hQ h' ⟨λb o hb e=>?_,qC ext.2 (by rw[sb.1];simp;lia)⟩ _ ⟨o',e1,e2⟩;have e':=ext.1 b o hb e;have hne:b≠(s.heap.push {cls:=.type "tuple",data:=.seq [].toArray}).objs.size:=q_ (qL (qZ e') (by simp));exact(sb.2 b hne).trans (qE _ (qE _ e'))
theorem mR{h:Heap}{a:Addr}{o:Obj}{T:String}{f:Obj->Obj}(hn:Hn A h)(ho:h.get? a=some o)(hc:o.cls=.type T):Hn A (h.update a f) :=
 hn.keep λb o' C e1 e2=>by
  have hne:a≠b:=λz=>by subst z;rw[ho] at e1;cases e1;rw[hc] at e2;cases e2
  exact(Heap.get?_update_other _ _ hne).trans e1
theorem ib{it l:Addr}{i:Nat}{items}{Q:Option Value->Shared->Prop}(hn:Hn A s.heap)
  (hit:s.heap.IsListIter it l i) (hl:s.heap.IsList l items) (hx:items[i]?=none)
  (hQ:∀h',Grown it s.heap h'->Q none {s with heap:=h'}):PySem.wpAny M A (pyNext (.ref it)) Q E s:=by
 exists hn hit hl hx hQ,zA A,zS s,aN E,zN it,zN l,zN i,za items,aN Q;refine nn λno=>?_;obtain⟨o,ho,hc,hd⟩:=id hit;obtain⟨ol,hol,_,nl,hdl⟩:=hl;refine no ?_;unfold pyNext;refine qA (PySem.wpAny_attempt (PySem.wpAny_callSpecial?_slot (name:=Str.ofString "__next__") hit.typeIs slot_listiter_next
  (r8 slot_listiter_next hit.typeIs entry_listiter_next ?_ (args_listiter_next _))))
 refine(?_:PySem.wpAny _ _ (field (.ref it) 0>>=_) _ _ s);refine qA (PySem.wpAny_field ho hd (x:=.ref l) rfl ?_);refine(?_:PySem.wpAny _ _ (if(Value.ref l==Value.none)=true then _ else _) _ _ s);exists (show ¬((Value.ref l==Value.none)=true) from Bool.false_ne_true);refine(?_:PySem.wpAny _ _ (field (.ref it) 1>>=_) _ _ s);refine qA (PySem.wpAny_field ho hd (x:=.int i 0) rfl ?_);refine(?_:PySem.wpAny _ _ (seqItems? (.ref l)>>=_) _ _ s);refine qA (PySem.wpAny_seqItems hol hdl ?_);simp only[Int.toNat_natCast,hx];refine qA (PySem.wpAny_rule (qA (PySem.wpAny_setField ho hd (by simp) ?_)));refine f9 (A:=A.in1) (mR (A:=A) hn ho hc) (Grown.of_same (qY ..)) λh' x e he=>?_;exact qA (PySem.wpAny_isInstance (T:="StopIteration") (b:=true) he isSubtype_stop (qB (hQ _ x)))
theorem pJ{it t:Addr}{i:Nat}{items}{Q:Option Value->Shared->Prop}(hn:Hn A s.heap)
  (hit:s.heap.IsTupleIter it t i) (ht:s.heap.IsTuple t items) (hx:items[i]?=none)
  (hQ:∀h',Grown it s.heap h'->Q none {s with heap:=h'}):wpAny M A (pyNext (.ref it)) Q E s:=by
 exists hn hit ht hx hQ,zA A,zS s,aN E,zN it,zN t,zN i,za items,aN Q;refine nn λno=>?_;obtain⟨o,ho,hc,hd⟩:=id hit;obtain⟨ol,hol,_,nl,hdl⟩:=ht;refine no ?_;unfold pyNext;refine a0 (aW (aC (name:=Str.ofString "__next__") hit.typeIs F.slot_tuple_iterator_next
  (aY F.slot_tuple_iterator_next hit.typeIs F.entry_tuple_iterator_next ?_ (F.args_tuple_iterator_next_1 _))))
 refine(?_:wpAny _ _ (field (.ref it) 0>>=_) _ _ s);refine a0 (lw<|wpAny_field ho hd (x:=.ref t) rfl ?_);refine(?_:wpAny _ _ (if(Value.ref t==Value.none)=true then _ else _) _ _ s);exists (show ¬((Value.ref t==Value.none)=true) from Bool.false_ne_true);refine(?_:wpAny _ _ (field (.ref it) 1>>=_) _ _ s);refine a0 (lw<|wpAny_field ho hd (x:=.int i 0) rfl ?_);refine(?_:wpAny _ _ (seqItems? (.ref t)>>=_) _ _ s);refine a0 (lw<|wpAny_seqItems hol hdl ?_);simp only[Int.toNat_natCast,hx];refine a0 (ba (a0 (lw<|wpAny_setField ho hd (by simp) ?_)));refine lw<|f9 (A:=A.in1) (mR (A:=A) hn ho hc) (Grown.of_same (qY ..)) λh' x e he=>?_;exact a0 (lw<|wpAny_isInstance (T:="StopIteration") (b:=true) he isSubtype_stop (a7 (hQ _ x)))
theorem pV{it:Addr}{x left step:Int}{Q:Option Value->Shared->Prop}(hn:Hn A s.heap)(hit:IsRangeIter s.heap it x left step)(hleft:left<=0)
  (hQ:∀h',Grown it s.heap h'->Q none {s with heap:=h'}):wpAny M A (pyNext (.ref it)) Q E s:=by
 exists hn hit hleft hQ,zA A,zS s,aN E,zN it,zI x,zI left,zI step,aN Q;have hT:s.TypeIs (.ref it) "range_iterator":=⟨_,hit,rfl⟩;unfold pyNext;refine a0 (aW (aC (name:=Str.ofString "__next__") hT F.slot_range_iterator_next
  (aY F.slot_range_iterator_next hT F.entry_range_iterator_next ?_ (F.args_range_iterator_next_1 _))))
 refine(?_:wpAny _ _ (field (.ref it) 0>>=_) _ _ s);refine a0 (lw<|wpAny_field hit rfl (x:=rawInt x) rfl ?_);refine(?_:wpAny _ _ (field (.ref it) 1>>=_) _ _ s);refine a0 (lw<|wpAny_field hit rfl (x:=rawInt left) rfl ?_);refine(?_:wpAny _ _ (field (.ref it) 2>>=_) _ _ s);refine a0 (lw<|wpAny_field hit rfl (x:=rawInt step) rfl ?_);refine(?_:wpAny _ _ (if left<=0 then _ else _) _ _ s);exists hleft,();refine a0 (ba ?_);refine a0 ?_;refine lw<|f9 (A:=A.in1) hn (Grown.refl it s.heap) λh' x e he=>?_;exact a0 (lw<|wpAny_isInstance (T:="StopIteration") (b:=true) he isSubtype_stop (a7 (hQ _ x)))
theorem jl{it l:Addr}{items:Array Value}(hne:l≠it):∀(n i:Nat) (s:Shared) (Q:List Value->Shared->Prop),s.heap.IsListIter it l i->s.heap.IsList l items->i+n<=items.size ->
  (∀h',h'.IsListIter it l (i+n)->Heap.SameBut it s.heap h'->Q ((items.toList.drop i).take n) {s with heap:=h'})->wpAny M A (draw (.ref it) n) Q E s
 | 0,i,s,Q,hit,_,_,hQ=>by
  refine(?_:wpAny _ _ (pure []) Q E s);exact a7 (by simpa using hQ s.heap hit (Heap.SameBut.refl ..))
 | n+1,i,s,Q,hit,ht,hle,hQ=>by
  have hlt:i<items.size:=by lia
  refine(?_:wpAny _ _ (pyNext (.ref it)>>=_) Q E s);refine a0 (lw<|wpAny_pyNext_list_item hit ht (x:=items[i]) (by simp[hlt]) λrC sI rR=>?_);refine a0 (ac (jl hne n (i+1) _ _ sI (ht.extBut rR.extBut hne) (by lia) λso tF tG=>a7 ?_));have e:items[i]::(items.toList.drop (i+1)).take n=(items.toList.drop i).take (n+1):=by
   have:i<items.toList.length:=by simpa using hlt
   rw[List.drop_eq_getElem_cons this,List.take_succ_cons];simp
  refine(e).symm▸?_;exact hQ so (by rw[show i+(n+1)=i+1+n by lia];exact tF) (rR.trans tG)
theorem gH{it l:Addr}{i:Nat}{items}{Q:Value->Shared->Prop}(hn:Hn A s.heap)
  (hit:s.heap.IsListIter it l i) (hl:s.heap.IsList l items) (hx:items[i]?=none)
  (hE:∀h' e,Grown it s.heap h'->(∃o,h'.get? e=some o/\o.cls=.type "StopIteration")->E (.ref e) {s with heap:=h'}) :
  wpAny M A (Builtin.SmallTypes.nextOf (.ref it)) Q E s:=by
 exists hn hit hl hx hE,zA A,zS s,aN E,zN it,zN l,zN i,za items,aN Q;refine nn λno=>?_;obtain⟨o,ho,hc,hd⟩:=id hit;obtain⟨ol,hol,_,nl,hdl⟩:=hl;refine no ?_;unfold Builtin.SmallTypes.nextOf;refine a0 (aC (name:=Str.ofString "__next__") hit.typeIs slot_listiter_next
  (aY slot_listiter_next hit.typeIs entry_listiter_next ?_ (args_listiter_next _)))
 refine(?_:wpAny _ _ (field (.ref it) 0>>=_) _ _ s);refine a0 (lw<|wpAny_field ho hd (x:=.ref l) rfl ?_);refine(?_:wpAny _ _ (if(Value.ref l==Value.none)=true then _ else _) _ _ s);exists (show ¬((Value.ref l==Value.none)=true) from Bool.false_ne_true);refine(?_:wpAny _ _ (field (.ref it) 1>>=_) _ _ s);refine a0 (lw<|wpAny_field ho hd (x:=.int i 0) rfl ?_);refine(?_:wpAny _ _ (seqItems? (.ref l)>>=_) _ _ s);refine a0 (lw<|wpAny_seqItems hol hdl ?_);simp only[Int.toNat_natCast,hx];refine a0 (ba (a0 (lw<|wpAny_setField ho hd (by simp) ?_)));exact lw<|f9 (A:=A.in1) (mR (A:=A) hn ho hc) (Grown.of_same (qY ..)) λh' x e he=>hE h' e x he
theorem enum_end{e it l:Addr}{i:Nat}{items:Array Value}{old:Value}{Q:Option Value->Shared->Prop}(hn:Hn A s.heap)
  (he:IsEnum s.heap e it i old) (hit:s.heap.IsListIter it l i) (hl:s.heap.IsList l items) (hx:items[i]?=none)
  (hQ:∀h',Grown it s.heap h'->Q none {s with heap:=h'}):wpAny M A (pyNext (.ref e)) Q E s:=by
 have hT:s.TypeIs (.ref e) "enumerate":=⟨_,he,rfl⟩;refine a0 (aW (aC (name:=Str.ofString "__next__") hT F.slot_enumerate_next
  (aY F.slot_enumerate_next hT F.entry_enumerate_next ?_ (F.args_enumerate_next_1 _))))
 refine(?_:wpAny _ _ (field (.ref e) 2>>=_) _ _ _);refine a0 (lw<|wpAny_field he rfl (x:=.ref it) rfl ?_);refine a0 (gH (A:=A.in1) hn hit hl hx λh' x he' hx'=>?_);exact a0 (lw<|wpAny_isInstance (T:="StopIteration") (b:=true) hx' isSubtype_stop (a7 (hQ _ he')))
theorem jB{t:Addr}{items:Array Value}{Q:List Value->Shared->Prop}(hn:Hn A s.heap)(ht:s.heap.IsTuple t items)
  (hQ:∀h',Grown s.heap.objs.size s.heap h'->Q items.toList {s with heap:=h'}):wpAny M A (unpackItems (.ref t) items.size none) Q E s:=by
 exists hn ht hQ,zA A,zS s,aN E,zN t,za items,aN Q;have hlt:t≠s.heap.objs.size:=by obtain⟨o,ho,_⟩:=ht;exact q_ (qZ ho)
 refine a0 ?_;refine a0 (lw<|qR ht.typeIs F.slot_tuple_iter.lookup ?_);refine a7 ?_;refine a0 (ac (lw<|wpAny_pyIter_tuple ht ?_));refine a0 (ac (lw<|wpAny_draw_tuple hlt items.size 0 _ _ ⟨_,qK _ rfl,rfl,rfl⟩ (ht.push _) (by lia) λrC sI rR=>?_));have hall:List.take items.size (List.drop 0 items.toList)=items.toList:=by
  rw[List.drop_zero];exact List.take_of_length_le (by simp)
 refine(hall).symm▸?_;exists (by simp);have sW:rC.IsTuple t items:=(ht.push _).extBut rR.extBut hlt;have sX:Hn A rC:=hn.keep λb o C e _=>(rR.2 b (q_ (qZ e))).trans (qE _ e);refine a0 (ac (pJ sX sI sW (by simp) λso sJ=>?_));exact a7 (hQ so ((Grown.push _).trans ((Grown.of_same rR).trans sJ)))
theorem kr{t:Addr}{items:Array Value}{Q:List Value->Shared->Prop}(hn:Hn A s.heap)(ht:s.heap.IsList t items)
  (hQ:∀h',Grown s.heap.objs.size s.heap h'->Q items.toList {s with heap:=h'}):wpAny M A (unpackItems (.ref t) items.size none) Q E s:=by
 exists hn ht hQ,zA A,zS s,aN E,zN t,za items,aN Q;have hlt:t≠s.heap.objs.size:=by obtain⟨o,ho,_⟩:=ht;exact q_ (qZ ho)
 refine a0 ?_;refine a0 (lw<|qR ht.typeIs slot_list_iter.lookup ?_);refine a7 ?_;refine a0 (ac (lw<|wpAny_pyIter_list ht ?_));refine a0 (ac (jl hlt items.size 0 _ _ ⟨_,qK _ rfl,rfl,rfl⟩ (ht.push _) (by lia) λrC sI rR=>?_));have hall:List.take items.size (List.drop 0 items.toList)=items.toList:=by
  rw[List.drop_zero];exact List.take_of_length_le (by simp)
 refine(hall).symm▸?_;exists (by simp);have sW:rC.IsList t items:=(ht.push _).extBut rR.extBut hlt;have sX:Hn A rC:=hn.keep λb o C e _=>(rR.2 b (q_ (qZ e))).trans (qE _ e);refine a0 (ac (lw<|ib sX sI sW (by simp) λso sJ=>?_));exact a7 (hQ so ((Grown.push _).trans ((Grown.of_same rR).trans sJ)))
end
end
section
section
variable {A:Around} {E:Value->Shared->Prop} {s rj:Shared} {K:Frag} {C x:Addr} {R:Result->Shared->Prop}
theorem cK{α:Type}{h:Heap}{t:Sem α}{r:α}{Q:α->Shared->Prop}{A:Around}{E:Value->Shared->Prop}{s:Shared}(L:Looks M h t r)(k:∀b o,h.get? b=some o->s.heap.get? b=some o)(q:Q r s):wpAny M A t Q E s:=lw (L A Q E s k q)
theorem pq{α:Type}{c:Bool}{a b:Sem α}{Q:α->Shared->Prop}(hc:c=false)(h:wpAny M A b Q E s):wpAny M A (if c=true then a else b) Q E s:=by
 subst hc;exact h
theorem kQ{newId:String}{rest:List Value}{init:Value}{oc:Value}{od:Option Addr}{cd:ClassData}{sl:Array (Option Value)}(hC:s.heap.get? C=some ⟨oc,od,.cls cd,sl⟩)(e4:cd.mro.isEmpty=false)
  (made:Looks M s.heap (Bind.madeBy (.ref C)) (some newId)) (self:Looks M s.heap (isSubtype (.ref C) (.ref C)) true) (call:Looks M s.heap (specialOf (.ref C) "__call__") (some (.builtin "type.__call__")))
  (typ:Looks M s.heap (isInstance (.ref C) (.type "type")) true) (hi:Looks M s.heap (typeLookup (.ref C) "__init__") (some init)) (hb:∀self,Looks M s.heap (bindSpecial init self) (init,[self]))
  (hn:∀A',PySem.codeAny M A' (.call (.builtin newId) ⟨.ref C::rest,[]⟩) (λr s'=>r=.ok (.ret (.ref x))/\s'=rj) s) (k:∀b o,s.heap.get? b=some o->rj.heap.get? b=some o) (t1:Looks M rj.heap (typeOf (.ref x)) (.ref C))
  (hq:af M (A.under (.builtin "type.__call__" ⟨.ref C::rest,[]⟩)) (.call init ⟨.ref x::rest,[]⟩) (InitBack x R) rj):af M A (.call (.ref C) ⟨rest,[]⟩) R s:=by
 exists sl hC e4 made self call typ hi hb hn k t1 hq,zA A,zS s,zS rj,zN C,zN x,aN R,zg newId,zL rest,zV init,zV oc,zO od,zcd cd;have rf:∀b o,s.heap.get? b=some o->s.heap.get? b=some o:=λ_ _ e=>e;have tc:∀b o,rj.heap.get? b=some o->rj.heap.get? b=some o:=λ_ _ e=>e;refine aq ?_;refine(?_:wpAny _ _ (callAny (.ref C) _) _ _ _);unfold callAny;refine a0 (bU hC ?_);refine(?_:wpAny _ _ (callAny.viaDunder (.ref C) _) _ _ _);unfold callAny.viaDunder;refine a0 (cK call rf ?_);dsimp only;refine a0 (a7 (a0 (a7 ?_)));refine a7 (a:=Fin.again (.call (.builtin "type.__call__") ⟨.ref C::rest,[]⟩)) (And.intro rfl ?_);refine aq ?_;refine(?_:wpAny _ _ (do checkBuiltinCall "type.__call__" ⟨.ref C::rest,[]⟩;again (.builtin "type.__call__" ⟨.ref C::rest,[]⟩)) _ _ s);refine a0 (lw (check_slot tc_kind tc_split typ (tc_args _ _ _) ?_));refine a7 ⟨Code.quiet_builtin _ (by decide +kernel),ce entry_typeCall ?_⟩;unfold Builtin.«type.__call__»;have hm:Looks M s.heap (mroOf (.ref C)) cd.mro:=((Looks.ld (part:=none) hC).andThen .now).andThen .now;refine pq (by rfl) ?_;refine a0 (cK hm rf ?_);refine(e4).symm▸?_;refine pq rfl ?_;refine a0 (cK made rf ?_);refine a0 (a7 (a0 (ac (aZ (lc (PySem.codeAny_mono (hn _) λr s' z=>?_))))));obtain⟨rfl,rfl⟩:=z;unfold isInstance;refine a0 (a0 (cK t1 tc (cK self k ?_)));refine pq rfl ?_;refine a0 (ac ?_);unfold callSpecial? specialOf;refine a0 (a0 (cK t1 tc (cK hi k ?_)));refine ac (a0 (cK (hb _) k ?_));refine a0 (aZ (bo hq λr ry z=>?_));rcases r with e|(v|_|_|_)<;>first|exact z|exact z.elim|skip
 obtain⟨rfl,z⟩:=z;exact a7 (pq (by rfl) (a7 z))
theorem makeI{rest:List Value}{fI:Addr}(X:K.In s.heap)(hm:makesIn K C=true)(hi:findIn K (.ref C) "__init__"=some (some (.ref fI)))(hf:typeIn K (.ref fI)=some (.type "function"))
  (h:af M (A.under (.builtin "type.__call__" ⟨.ref C::rest,[]⟩)) (.call (.ref fI) ⟨.ref (s.heap.objs.size+1)::rest,[]⟩) (InitBack (s.heap.objs.size+1) R) {s with heap:=(s.heap.push emptyDict).push (instObj C s.heap.objs.size)}) :
  af M A (.call (.ref C) ⟨rest,[]⟩) R s:=by
 have Y:=makes_of (M:=M) X hm;refine nn λno=>?_;obtain⟨⟨oc,od,cd,sl,hC,e1,e2,e4⟩,made,base,self,top,call,typ⟩:=id Y;refine no ?_;have hx:((s.heap.push emptyDict).push (instObj C s.heap.objs.size)).get? (s.heap.objs.size+1)=some (instObj C s.heap.objs.size):=by heap_get
 have t1:Looks M ((s.heap.push emptyDict).push (instObj C s.heap.objs.size)) (typeOf (.ref (s.heap.objs.size+1))) (.ref C):=(Looks.ld hx).andThen .now;have L:=looks_findIn (M:=M) X hi;refine kQ hC e4 made self call typ L (λself=>bind_fn X self hf) (λA'=>?_) (λb o e=>qE _ (qE _ e)) t1 h;exact new_K (A:=A') (h:=s.heap) (g:=s.gens) (d:=s.drawn) (t:=s.toks) (os:=s.os) Y L (.inl rfl) ⟨rfl,rfl⟩
end
end
section
open PySem (wpAny_loadPart_at)
section
variable {A:Around} {E:Value->Shared->Prop} {R:Result->Shared->Prop} {h:Heap} {g:Array GenState} {d:Drawn} {t:Nat} {os:OsState}
variable {nm q:Str} {C N:Addr} {bs bm:List Value} {hdct:Bool} {sn:List Str} {sub:List Value} {ab:Bool} {col:Option Bool} {dd:Option Addr} {k0 k1 k2 k3 k5:Option Value}
theorem fJ(bm:List Value)(C:Addr)(X:String):(Value.ref C::bm).contains (.type X)=bm.contains (.type X):=by rw[List.contains_cons];rfl
theorem qf{rest:List Value}{Q:Unit->Shared->Prop}(hC:h.get? C=some (excClassObj nm q C N bs bm hdct sn sub ab col dd k0 k1 k2 k3 k5 "Exception.__new__"))(hE:bm.contains (.type "Exception")=true)
  (hq:Q () ⟨h,g,d,t,os⟩):PySem.wpAny M A (checkBuiltinCall "Exception.__new__" ⟨.ref C::rest,[]⟩) Q E ⟨h,g,d,t,os⟩:=by
 exists d sn sub ab col dd k0 k1 k2 k3 k5 hC hE hq,zA A,aN E,zH h,za g,zN t,zW os,zs nm,zs q,zN C,zN N,zL bs,zL bm,zB hdct,zL rest,aN Q;have Fn:=F.excBase_Exception;have hcont:(Value.ref C::bm).contains (.type "Exception")=true:=(fJ ..).trans hE;have hstar:=Fn.noStar;simp only[checkBuiltinCall,Fn.newKind,Fn.newSplit,Fn.newRow]
 repeat (first|refine wpAny_loadPart_at hC ?_|(refine wpAny_isSubtype_exc hC ?_;rw[hcont])|refine wpAny_staticBase_exc hC ?_|refine wpAny_madeBy_exc hC ?_|simp only[bne_self_eq_false,Bool.false_eq_true,if_false]|wp_step)
 exact hq
theorem exc_new{rest:List Value}(hC:h.get? C=some (excClassObj nm q C N bs bm hdct sn sub ab col dd k0 k1 k2 k3 k5 "Exception.__new__"))(hE:bm.contains (.type "Exception")=true)
  (hA:bm.contains (.type "AttributeError")=false) (hN:bm.contains (.type "NameError")=false)
  (hq:R (.ok (.ret (.ref (h.objs.size+1)))) ⟨(h.push {cls:=.type "tuple",data:=.seq rest.toArray}).push {cls:=.ref C,data:=.fields #[.ref h.objs.size,.none,.none,.none,.bool false,.none]},g,d,t,os⟩) (hrest:rest.length<=sizeLine) :
  PySem.codeAny M A (.builtin "Exception.__new__" ⟨.ref C::rest,[]⟩) R ⟨h,g,d,t,os⟩:=by
 exists d sub ab col dd k0 k1 k2 k3 k5 hC hE hA hN hq hrest,zA A,aN R,zH h,za g,zN t,zW os,zs nm,zs q,zN C,zN N,zL bs,zL bm,zB hdct,zL sn,zL rest;have Fn:=F.excBase_Exception;have hends:=Fn.ends;have hcB:(Value.ref C::bm).contains (.type "Exception")=true:=(fJ ..).trans hE;have hcA:(Value.ref C::bm).contains (.type "AttributeError")=false:=(fJ ..).trans hA;have hcN:(Value.ref C::bm).contains (.type "NameError")=false:=(fJ ..).trans hN;refine PySem.codeAny_builtinAt Fn.entry ?_;unfold Builtin.«BaseException.__new__»;refine PySem.wpAt_bind ?_;refine(?_:PySem.wpAt _ _ _ (stack>>=_) _ _ _);refine PySem.wpAt_bind (PySem.wpAt_stack λp below=>PySem.wpAt_of_wpAny ?_);wp_walk;refine PySem.wpAt_of_wpAny ?_;refine(Fn.owner).symm▸?_
 repeat (first|with_reducible refine wpAny_madeHere_exc Fn.canon hC ?_|with_reducible refine wpAny_loadPart_at hC ?_|(with_reducible refine wpAny_isSubtype_exc hC ?_;first|rw[hcB]|rw[hcA]|rw[hcN])|wp_step)
 refine(?_:R _ _);rw[Heap.size_push];exact hq
structure ExcCls (K:Frag) (C:Addr):Prop where
 obj:∃nm q N bs bm hdct sn sub ab col dd k0 k1 k2 k3 k5,K.lookup C=some (excClassObj nm q C N bs bm hdct sn sub ab col dd k0 k1 k2 k3 k5 "Exception.__new__") /\
  bm.contains (.type "Exception")=true/\bm.contains (.type "AttributeError")=false/\bm.contains (.type "NameError")=false
 call:specialIn K (.ref C) "__call__"=some (some (.builtin "type.__call__"))
 typ:instIn K (.ref C) (.type "type")=some true
 self:mroIn K C (.ref C)=some true
theorem makeE{s:Shared}{K:Frag}{rest:List Value}{fI:Addr}(X:K.In s.heap)(Y:ExcCls K C)(hi:findIn K (.ref C) "__init__"=some (some (.ref fI)))(hf:typeIn K (.ref fI)=some (.type "function"))(hrest:rest.length<=20)
  (h:af M (A.under (.builtin "type.__call__" ⟨.ref C::rest,[]⟩)) (.call (.ref fI) ⟨.ref (s.heap.objs.size+1)::rest,[]⟩) (InitBack (s.heap.objs.size+1) R)
   {s with heap:=(s.heap.push {cls:=.type "tuple",data:=.seq rest.toArray}).push {cls:=.ref C,data:=.fields #[.ref s.heap.objs.size,.none,.none,.none,.bool false,.none]}}) :
  af M A (.call (.ref C) ⟨rest,[]⟩) R s:=by
 exists X Y hi hf hrest h,zA A,aN R,zN C,zS s,zL K,zL rest,zN fI;obtain⟨nm,q,N,bs,bm,hdct,sn,sub,ab,col,dd,k0,k1,k2,k3,k5,hK,hE,hA,hN⟩:=Y.obj;have hC:=X _ _ hK;have hx:((s.heap.push {cls:=.type "tuple",data:=.seq rest.toArray}).push {cls:=.ref C,data:=.fields #[.ref s.heap.objs.size,.none,.none,.none,.bool false,.none]}).get? (s.heap.objs.size+1)=some {cls:=.ref C,data:=.fields #[.ref s.heap.objs.size,.none,.none,.none,.bool false,.none]}:=by heap_get
 have t1:Looks M ((s.heap.push {cls:=.type "tuple",data:=.seq rest.toArray}).push {cls:=.ref C,data:=.fields #[.ref s.heap.objs.size,.none,.none,.none,.bool false,.none]}) (typeOf (.ref (s.heap.objs.size+1))) (.ref C):=(Looks.ld hx).andThen .now;have made:Looks M s.heap (Bind.madeBy (.ref C)) (some "Exception.__new__"):=λA Q E s' k r=>by
  obtain⟨h',g,d,t,os⟩:=s';exact wpAny_madeBy_exc (k _ _ hC) r
 refine kQ hC (by rfl) made (looks_mroIn X Y.self) (looks_specialIn X Y.call) (looks_instIn X Y.typ) (looks_findIn X hi) (λself=>bind_fn X self hf) (λA'=>?_) (λb o e=>qE _ (qE _ e)) t1 h;obtain⟨hp,g,d,t,os⟩:=s;exact codeAny_call_builtin_code (Code.quiet_builtin _ F.excBase_Exception.quiet) (qf hC hE (exc_new hC hE hA hN ⟨rfl,rfl⟩ (kdl_size (by lia))))
end
end
section
open PySem.Builtin PySem.Builtin.ObjectAttr
section
variable {A:Around} {E:Value->Shared->Prop} {s:Shared} {K:Frag} {R:Result->Shared->Prop}
theorem bga_bind(self:Value):bindSpecial (.builtin "BaseException.__getattribute__") self=pure (.builtin "BaseException.__getattribute__",[self]):=PySem.F.excAttr_ValueError.ga.bind self
theorem bga_kind:builtinKind "BaseException.__getattribute__"=some .slot:=by decide +kernel
theorem qr:splitId "BaseException.__getattribute__"=some ("BaseException","__getattribute__"):=by decide +kernel
theorem bga_call{v name:Value}{Q:Unit->Shared->Prop}(Li:Looks M s.heap (isInstance v (.type "BaseException")) true)(q:Q () s):PySem.wpAny M A (checkBuiltinCall "BaseException.__getattribute__" ⟨[v,name],[]⟩) Q E s :=
 @check_slot M A E s "BaseException.__getattribute__" "BaseException" "__getattribute__" v [name] [] Q bga_kind qr Li (PySem.F.args_bexc_ga v name) q
theorem exc_get{x C ad:Addr}{ox:Obj}{ds:List DictEntry}{n:Nat}{en:DictEntry}{name:Str}{cd:ClassData}{ex:Bool}{Q:Value->Shared->Prop}(X:K.In s.heap)(hc:clsIn K C=some cd)(hd:cd.hasDict=true)(hn:findIn K (.ref C) name=some none)
  (hga:findIn K (.ref C) "__getattribute__"=some (some (.builtin "BaseException.__getattribute__"))) (hgt:findIn K (.ref C) "__getattr__"=some none) (hb:mroIn K C (.type "BaseException")=some true)
  (e:s.heap.get? x=some ox) (hC:ox.cls=.ref C) (ha:ox.dict=some ad) (hp:notCls ox=true) (e':s.heap.get? ad=some (dictOf ds n))
  (f:ds.find? (·.key.isStr name)=some en) (hh:handedIn en.val=true) (q:∀t,Q en.val {s with toks:=t}):PySem.wpAny M A (getAttr (.ref x) name ex) Q E s:=by
 have I:InstAt s.heap x ox C (some (dictOf ds n)):=⟨e,hC,hp,by rw[ha];exact e'⟩;obtain⟨hp',g,d,t,os⟩:=s;have L0:Looks M hp' (typeOf (.ref x)) (.ref C):=I.type;have L1:=looks_findIn (M:=M) X hga;have L2:=looks_findIn (M:=M) X hgt;have L3:=looks_find (M:=M) X I (ji hc hd hn f);have Li:Looks M hp' (isInstance (.ref x) (.type "BaseException")) true:=I.type.andThen (looks_mroIn X hb);have hx0:(ex&&onTheHeap (Value.builtin "BaseException.__getattribute__"))=false:=by cases ex<;>rfl
 refine qA (wpAny_mkText (PySem.wpAny_holding (qA (L0.at (qA (L1.at ?_))))));refine(?_:PySem.wpAny _ _ (getAttrByItsOwn _ _ _ _ _ _) _ _ _);unfold getAttrByItsOwn hookBefore callGetattribute boundAndCalled;refine qA ?_;refine(?_:PySem.wpAny _ _ (typeLookup (.ref C) "__getattr__") _ _ _);refine L2.at (qA (PySem.wpAny_attempt (PySem.wpAny_holding ?_)));refine KFB.if_not hx0 ?_;refine qA (qB (PySem.wpAny_call (PySem.codeAny_call_builtin PySem.F.excAttr_ValueError.ga.plain PySem.F.entry_bexc_ga (bga_call Li ?_))));refine qA (m:=slotArgs "__getattribute__" 1 _) (qB ?_);refine qA (m:=ObjectAttr.attrName _) (qB ?_);refine qA (L0.at (qA (L3.at ?_)));refine qB ?_;refine(?_:PySem.wpAny _ _ (handedOut en.val) _ _ _);rw[handedOut_of hh];exact qB (q _)
inductive ExcTail:List Value->Prop
 | base:ExcTail [.type "Exception",.type "BaseException",.type "object"]
 | ref {c:Addr} {r:List Value} (h:ExcTail r):ExcTail (.ref c::r)
theorem mZ(self:Value){l:List Value}(h:ExcTail l):refuseLoop self "__setattr__" l=pure ():=by
 induction h with
 | base=>exact PySem.F.store_Exception.passes self
 | ref _ ih=>rw[refuseLoop_ref];exact ih
theorem ls{x C:Addr}{ox:Obj}{od:Option Obj}{name:Str}{tk:Tok}{v:Value}{cd:ClassData}(X:K.In s.heap)(I:InstAt s.heap x ox C od)(hc:clsIn K C=some cd)(ho:ExcTail cd.mro)(hob:mroIn K C (.type "object")=some true)(hn:findIn K (.ref C) name=some none)
  (h:PySem.wpAny M A.in1 (storeInOwnDict (.ref x) (.ref C) (.str name tk) name v false)
   (λfin s'=>match fin with|.done f=>R (.ok f) s'|.again c'=>c'.quiet=true/\PySem.codeAny M A c' R s') (λe s'=>R (.error e) s') s) :
  PySem.codeAny M A (.call (.builtin "object.__setattr__") ⟨[.ref x,.str name tk,v],[]⟩) R s:=by
 have SF:=PySem.F.store_object;have sub:Looks M s.heap (isInstance (.ref x) (.type "object")) true:=I.type.andThen (looks_mroIn X hob);refine PySem.codeAny_call_builtin SF.slot.plain SF.entry (@check_slot M _ _ s "object.__setattr__" "object" "__setattr__" (.ref x) [.str name tk,v] [] _ SF.kind SF.split sub (SF.args (.ref x) (.str name tk) v) ?_);have hm:Looks M s.heap (mroOf (.ref C)) cd.mro:=(looks_clsIn X hc).andThen .now;have L3:Looks M s.heap (storeTaker? none) none:=.now;rw[osa_eq,refuse_eq];refine qA (qA (I.type.here (qA (hm.here ?_))));refine(mZ _ ho).symm▸?_;refine qB (qA (I.type.here (qA ((looks_findIn X hn).here (qA (L3.here ?_))))));exact h
theorem iy{ad:Addr}{ds:List DictEntry}{n:Nat}{name:Str}{tk:Tok}{v:Value}{Q:Fin->Shared->Prop}(e':s.heap.get? ad=some (dictOf ds n))(hl:(ds.find? (·.key.isStr name)).isSome=true\/ds.any (·.refKey)=false)(hz:ds.length<=900)
  (q:∀t t',Q (.done (.ret .none)) {s with heap:=s.heap.update ad (Obj.putName name (PyData.keyHash w0.params name) (.str name t) v),toks:=t'}):PySem.wpAny M A (storeInDict ad (.str name tk) name v) Q E s:=by
 exists e' hl hz q,zA A,aN E,zS s,zN ad,zL ds,zN n,zs name,zN tk,zV v,aN Q;have D':∀t,(s.heap.update ad (Obj.putName name (PyData.keyHash w0.params name) (.str name t) v)).get? ad=some (dictOf (putL name (PyData.keyHash w0.params name) (.str name t) v ds) (putN name ds n)):=λt=>by
  rw[<-putName_dict];exact r5 _ e' (by rw[putName_dict];rfl)
 refine qA (qB (qA ?_));refine qA (qA (wpAny_askSetting (qB (qA (wpAny_mkText (qA (wpAny_loadPart e' ?_)))))));dsimp only;have c:(!ds.toArray.any (·.key.isStr name)&&ds.toArray.any (·.refKey))=false:=by
  rcases hl with hl|hl
  .obtain⟨en,he⟩:=Option.isSome_iff_exists.mp hl;rw[<-Array.any_toList,<-Array.any_toList,List.any_eq_true.mpr ⟨en,List.mem_of_find?_eq_some he,List.find?_some he⟩];rfl
  .rw[<-Array.any_toList (p:=λx:DictEntry=>x.refKey)];show(_&&ds.any _)=false;rw[hl,Bool.and_false]
 rw[aRefKeyMayBeTheName_at,c];refine wpAny_updatePart e' ?_;refine qA (wpAny_lookBehind (D' _) (pastItsLine_dict (by rw[List.size_toArray,sizeLine_eq];have:=gL name (PyData.keyHash w0.params name) (.str name s.toks) v ds;lia)) ?_);exact qB (q _ _)
theorem exc_set{x C ad:Addr}{ox:Obj}{ds:List DictEntry}{n:Nat}{name:Str}{v:Value}{cd:ClassData}{Q:Unit->Shared->Prop}(X:K.In s.heap)(hc:clsIn K C=some cd)(hh:cd.hasDict=true)(ho:ExcTail cd.mro)(hob:mroIn K C (.type "object")=some true)(hn:findIn K (.ref C) name=some none)
  (hs:findIn K (.ref C) "__setattr__"=some (some (.builtin "object.__setattr__"))) (e:s.heap.get? x=some ox) (hC:ox.cls=.ref C) (ha:ox.dict=some ad) (hno:notCls ox=true) (e':s.heap.get? ad=some (dictOf ds n))
  (hl:(ds.find? (·.key.isStr name)).isSome=true\/ds.any (·.refKey)=false) (hz:ds.length<=900)
  (q:∀t t',Q () {s with heap:=s.heap.update ad (Obj.putName name (PyData.keyHash w0.params name) (.str name t) v),toks:=t'}):wpAny M A (setAttr (.ref x) name v) Q E s:=by
 have I:InstAt s.heap x ox C (some (dictOf ds n)):=⟨e,hC,hno,by rw[ha];exact e'⟩;refine lw<|set_plain X I hs (ls (s:={s with toks:=s.toks+1}) X I hc ho hob hn ?_);refine nn λno=>?_;obtain⟨oc,odi,oda,osl⟩:=ox;refine no ?_;dsimp only at hC ha;subst hC ha;refine qA (qB (qA (qA (wpAny_loadPart e (qA (looks_clsIn (M:=M) (h:=s.heap) X hc _ _ _ _ (λ_ _ e=>e) ?_))))));refine(hh).symm▸?_;exact qB (a:=some ad) (iy e' hl hz λt t'=>q t t')
theorem qe{x C:Addr}{vs:Array Value}{name:Str}{v:Value}{cd:ClassData}{Q:Unit->Shared->Prop}(X:K.In s.heap)(hc:clsIn K C=some cd)(hh:cd.hasDict=true)(ho:ExcTail cd.mro)(hob:mroIn K C (.type "object")=some true)(hn:findIn K (.ref C) name=some none)
  (hs:findIn K (.ref C) "__setattr__"=some (some (.builtin "object.__setattr__"))) (e:s.heap.get? x=some {cls:=.ref C,dict:=none,data:=.fields vs})
  (q:∀D h' k en t n,(∀b o,b≠x->s.heap.get? b=some o->h'.get? b=some o)->s.heap.objs.size<=D->s.heap.objs.size<=h'.objs.size->h'.get? D=some (dictOf [en] n)->en.key=.str name t->en.val=v ->
   h'.get? x=some {cls:=.ref C,dict:=some D,data:=.fields vs}->Q () {s with heap:=h',toks:=k}):wpAny M A (setAttr (.ref x) name v) Q E s:=by
 exists E X hc hh ho hob hn hs e q,zA A,zS s,zL K,zN x,zN C,za vs,zs name,zV v,zcd cd,aN Q;have I:InstAt s.heap x _ C none:=⟨e,rfl,rfl,trivial⟩;refine lw<|set_plain X I hs (ls (s:={s with toks:=s.toks+1}) X I hc ho hob hn ?_);have hxs:x≠s.heap.objs.size:=q_ (qZ e);have td:=qE {cls:=.type "dict",data:=.dict #[]} e;have hgd:((s.heap.push {cls:=.type "dict",data:=.dict #[]}).update x λo=>{o with dict:=some s.heap.objs.size}).get? s.heap.objs.size=some (dictOf [] 0) :=
  (Heap.get?_update_ne _ _ _ _ hxs.symm).trans (Heap.get?_push_at rfl rfl)
 refine qA (qB (qA (qA (wpAny_loadPart e (qA (looks_clsIn (M:=M) (h:=s.heap) X hc _ _ _ _ (λ_ _ e=>e) ?_))))));refine(hh).symm▸?_;refine KFB.if_not rfl ?_;refine KFB.if_not (by simp[typeHasDict]) ?_;refine qA (wpAny_alloc ?_);refine qA (PySem.wpAny_update td ?_);refine qB (iy hgd (.inr rfl) (r0 _) λt t'=>?_);have tH:((s.heap.push {cls:=.type "dict",data:=.dict #[]}).update x λo=>{o with dict:=some s.heap.objs.size}).get? x=some {cls:=.ref C,dict:=some s.heap.objs.size,data:=.fields vs}:=r5 _ td rfl;have sz:s.heap.objs.size<=(((s.heap.push {cls:=.type "dict",data:=.dict #[]}).update x λo=>{o with dict:=some s.heap.objs.size}).update s.heap.objs.size (Obj.putName name (PyData.keyHash w0.params name) (.str name t) v)).objs.size:=by
  rw[Heap.size_update,Heap.size_update,Heap.size_push];lia
 refine q s.heap.objs.size _ t' ⟨PyData.keyHash w0.params name,.str name t,v⟩ t (putN name [] 0) (λb o hb eb=>?_) (qW _) sz ?_ rfl rfl ?_
 .exact(Heap.get?_update_other _ _ (Nat.ne_of_gt (qZ eb))).trans ((Heap.get?_update_ne _ _ _ _ hb).trans (qE _ eb))
 .refine(r5 _ hgd (by rw[putName_dict];rfl)).trans ?_;rfl
 .exact(Heap.get?_update_other _ _ hxs.symm).trans tH
end
end
section
section
variable {A:Around} {E:Value->Shared->Prop} {s:Shared} {K:Frag}
theorem iu{C x:Addr}{ox:Obj}{rest:List Value}{Q:Unit->Shared->Prop}(X:K.In s.heap)(Y:ExcCls K C)(e:s.heap.get? x=some ox)(hC:ox.cls=.ref C)(q:Q () s):
  PySem.wpAny M A (checkBuiltinCall "Exception.__init__" ⟨.ref x::rest,[]⟩) Q E s:=by
 exists X Y e hC q,zA A,aN E,zS s,zL K,zN C,zN x,zb ox,zL rest,aN Q;have F:=PySem.F.excBase_Exception;refine nn λno=>?_;obtain⟨nm,q',N,bs,bm,hdct,sn,sub,ab,col,dd,k0,k1,k2,k3,k5,hK,hE,hA,hN⟩:=Y.obj;have hC':=X _ _ hK;have hcB:(Value.ref C::bm).contains (.type "Exception")=true:=(fJ ..).trans hE;have hshort:=F.noStar;obtain⟨hp,g,d,t,os⟩:=s;refine no ?_;simp only[checkBuiltinCall,F.initKind,F.initSplit,F.initRow]
 repeat (first|(with_reducible refine PySem.wpAny_loadPart_at e ?_;rw[hC])|with_reducible refine PySem.wpAny_loadPart_at hC' ?_|(with_reducible refine wpAny_isSubtype_exc hC' ?_;rw[hcB])|wp_step)
 refine PySem.wpAny_onRaise ?_;rw[show ∀(a b:String) (n:Nat),Bind.check ⟨.positional,"*","Exception",.self,[⟨"args",.varPos,false⟩]⟩ a b n (List.map (λx=>x.fst) ({pos:=Value.ref x::rest}:Args).kw)=pure () from
  λa b n=>PySem.check_star_args _ _ _ _ _ _]
 exact qB q
theorem ni{C x:Addr}{ad:Option Addr}{vs:Array Value}{v:Value}{Q:Value->Shared->Prop}(X:K.In s.heap)(Y:ExcCls K C)(e:s.heap.get? x=some {cls:=.ref C,dict:=ad,data:=.fields vs})(hz:6<=vs.size)
  (q:∀rC h' T k,Idle s.heap rC->Heap.SameBut x rC h'->h'.get? x=some {cls:=.ref C,dict:=ad,data:=.fields (vs.setIfInBounds 0 T)}->Q .none {s with heap:=h',toks:=k}):wpAny M A (call (.builtin "Exception.__init__") [.ref x,v]) Q E s:=by
 exists X Y e hz q,zA A,aN E,zS s,zL K,zN C,zN x,zO ad,za vs,zV v,aN Q;have F:=PySem.F.excBase_Exception;refine lw<|PySem.wpAny_call (PySem.codeAny_call_builtin F.init.plain F.initEntry (iu X Y e rfl ?_));unfold Builtin.«BaseException.__init__»;exists (by simp);have sE:=qE (h:=s.heap) {cls:=.type "tuple",data:=.seq [v].toArray} e;have h0:vs[0]?=some (vs[0]'(by lia)):=Array.getElem?_eq_getElem _;refine qA (wpAny_newObj_type (qA (qA (wpAny_field sE rfl h0 (qA (wpAny_setField sE rfl (by lia) ?_))))) (by size_fits));split
 .refine PySem.wpAny_letGo ?_;exact qB (q _ _ (.ref s.heap.objs.size) s.toks (Idle.push _ _) (qY ..) (r5 _ sE rfl))
 .refine qB ?_;exact qB (q _ _ (.ref s.heap.objs.size) s.toks (Idle.push _ _) (qY ..) (r5 _ sE rfl))
end
end
section
structure ClsAt (C:Addr) (k:Cls):Prop where
 typ:typeIn KF (.ref C)=some (.type "type")
 keep:keepIn KF (.ref C)=true
 init:findIn KF (.ref C) "__init__"=some (some (.ref k.init))
 fn:typeIn KF (.ref k.init)=some (.type "function")
 ga:findIn KF (.ref C) "__getattr__"=some none
 sa:findIn KF (.ref C) "__setattr__"=some (some (.builtin "object.__setattr__"))
 cd:∃cd,clsIn KF C=some cd/\cd.hasDict=true/\(k.isExc=true->ExcTail cd.mro)/\(k.isExc=false->onlyObject cd.mro=true)
 inst:k.isExc=false->makesIn KF C=true/\findIn KF (.ref C) "__getattribute__"=some (some (.builtin "object.__getattribute__"))
 exc:k.isExc=true->ExcCls KF C/\findIn KF (.ref C) "__getattribute__"=some (some (.builtin "BaseException.__getattribute__"))/\mroIn KF C (.type "object")=some true
 base:k.isExc=true->mroIn KF C (.type "BaseException")=some true
 attr:∀a,k.attrs.elem a=true->findIn KF (.ref C) (nm a)=some none
 meth:∀a f,look a k.meths=some f->findIn KF (.ref C) (nm a)=some (some (.ref f))/\findCls KF (.ref C) (.type "type") (nm a)=some (.val (.ref f))/\∃of,KF.lookup f=some of/\of.cls=.type "function"
theorem KF_tab:KF.lookup 731=none:=by rfl'
theorem KF_in:KF.In (HF w0.params):=Frag.in_of (as:=[2,38,37,35,58,57,55,70,69,82,81,115,114,105,112,197,196,166,173,180,187,194,247,246,216,223,230,237,244,484,483,369,376,383,390,397,404,411,418,425,432,439,446,453,460,467,474,481,506,505,503,642,641,524,531,562,569,576,583,590,597,604,611,618,625,632,639]) rfl (by rfl')
theorem kin(a:Addr)(o:Obj)(e:KF.lookup a=some o):Bs.get? a=some o:=iJ (λz=>by rw[z,KF_tab] at e;cases e) (KF_in a o e)
noncomputable def chkM(C a f:Nat):Bool:=findIn KF (.ref C) (nm a)==some (some (.ref f))&&((match findCls KF (.ref C) (.type "type") (nm a) with|some (.val v)=>v==.ref f|_=>false)&&(match KF.lookup f with|some o=>o.cls==.type "function" | none=>false))
set_option tactic.hygienic true in
theorem chkM_ok{C a f:Nat}(h:chkM C a f=true):findIn KF (.ref C) (nm a)=some (some (.ref f))/\findCls KF (.ref C) (.type "type") (nm a)=some (.val (.ref f))/\∃of,KF.lookup f=some of/\of.cls=.type "function":=by
 revert h;revert C a f;refine @al3 _ _ _ zN zN zN ?P ((?f:∀a b c,?P a b c) _ _ _);intro C a f h;unfold chkM at h;refine⟨eq_of_beq (ae h),?_,?_⟩
 .have h2:=ae (a8 h);split at h2
  .rename_i v e;rw[e,eq_of_beq h2]
  .cases h2
 .have h3:=a8 (a8 h);split at h3
  .rename_i o e;exact⟨o,e,eq_of_beq h3⟩
  .cases h3
noncomputable def chkK(C:Nat)(k:Cls):Bool:=typeIn KF (.ref C)==some (.type "type")&&(keepIn KF (.ref C)&&(findIn KF (.ref C) "__init__"==some (some (.ref k.init))&&(typeIn KF (.ref k.init)==some (.type "function")&&(findIn KF (.ref C) "__getattr__"==some none &&
 (findIn KF (.ref C) "__setattr__"==some (some (.builtin "object.__setattr__"))&&(k.attrs.all (λa=>findIn KF (.ref C) (nm a)==some none)&&k.meths.all (λp=>chkM C p.1 p.2)))))))
theorem ClsAt.of{C:Addr}{k:Cls}(h:chkK C k=true)(cd:∃cd,clsIn KF C=some cd/\cd.hasDict=true/\(k.isExc=true->ExcTail cd.mro)/\(k.isExc=false->onlyObject cd.mro=true))
  (inst:k.isExc=false->makesIn KF C=true/\findIn KF (.ref C) "__getattribute__"=some (some (.builtin "object.__getattribute__")))
  (exc:k.isExc=true->ExcCls KF C/\findIn KF (.ref C) "__getattribute__"=some (some (.builtin "BaseException.__getattribute__"))/\mroIn KF C (.type "object")=some true) (base:k.isExc=true->mroIn KF C (.type "BaseException")=some true):ClsAt C k where
 typ:=eq_of_beq (ae h)
 keep:=ae (a8 h)
 init:=eq_of_beq (ae (a8 (a8 h)))
 fn:=eq_of_beq (ae (a8 (a8 (a8 h))))
 ga:=eq_of_beq (ae (a8 (a8 (a8 (a8 h)))))
 sa:=eq_of_beq (ae (a8 (a8 (a8 (a8 (a8 h))))))
 cd:=cd
 inst:=inst
 exc:=exc
 base:=base
 attr:=λa m=>eq_of_beq (List.all_eq_true.mp (ae (a8 (a8 (a8 (a8 (a8 (a8 h))))))) a (List.elem_iff.mp m))
 meth:=λa f m=>chkM_ok (List.all_eq_true.mp (a8 (a8 (a8 (a8 (a8 (a8 (a8 h))))))) _ (dU m))
noncomputable def AllE{β:Type}(p:Nat->β->Prop):List (Nat×β)->Prop
 | []=>True
 | (a,x)::r=>p a x/\AllE p r
theorem AllE.at{β:Type}{p:Nat->β->Prop}{k:Nat}{v:β}:∀{l:List (Nat×β)},AllE p l->look k l=some v->p k v
 | (j,u)::_,h,e=>by
  have e:(match Nat.beq j k with|true=>some u|false=>look k _)=some v:=e;cases q:Nat.beq j k with
  | true=>rw[q] at e;cases e;rw[<-qH q];exact h.1
  | false=>rw[q] at e;exact h.2.at e
theorem cls_all:AllE ClsAt T.cls:=⟨(.of (by rfl') ⟨_,rfl,rfl,λ_=>.ref .base,nofun⟩ nofun (λ_=>⟨⟨⟨_,_,_,_,_,_,_,_,_,_,_,_,_,_,_,_,rfl,by decide,by decide,by decide⟩,by rfl',by rfl',by rfl'⟩,by rfl',by rfl'⟩) λ_=>by rfl'),(.of (by rfl') ⟨_,rfl,rfl,λ_=>.ref (.ref .base),nofun⟩ nofun (λ_=>⟨⟨⟨_,_,_,_,_,_,_,_,_,_,_,_,_,_,_,_,rfl,by decide,by decide,by decide⟩,by rfl',by rfl',by rfl'⟩,by rfl',by rfl'⟩) λ_=>by rfl'),(.of (by rfl') ⟨_,rfl,rfl,λ_=>.ref (.ref .base),nofun⟩ nofun (λ_=>⟨⟨⟨_,_,_,_,_,_,_,_,_,_,_,_,_,_,_,_,rfl,by decide,by decide,by decide⟩,by rfl',by rfl',by rfl'⟩,by rfl',by rfl'⟩) λ_=>by rfl'),(.of (by rfl') ⟨_,rfl,rfl,λ_=>.ref (.ref .base),nofun⟩ nofun (λ_=>⟨⟨⟨_,_,_,_,_,_,_,_,_,_,_,_,_,_,_,_,rfl,by decide,by decide,by decide⟩,by rfl',by rfl',by rfl'⟩,by rfl',by rfl'⟩) λ_=>by rfl'),(.of (by rfl') ⟨_,rfl,rfl,nofun,λ_=>by rfl'⟩ (λ_=>⟨by rfl',by rfl'⟩) nofun nofun),(.of (by rfl') ⟨_,rfl,rfl,nofun,λ_=>by rfl'⟩ (λ_=>⟨by rfl',by rfl'⟩) nofun nofun),(.of (by rfl') ⟨_,rfl,rfl,nofun,λ_=>by rfl'⟩ (λ_=>⟨by rfl',by rfl'⟩) nofun nofun),(.of (by rfl') ⟨_,rfl,rfl,nofun,λ_=>by rfl'⟩ (λ_=>⟨by rfl',by rfl'⟩) nofun nofun),(.of (by rfl') ⟨_,rfl,rfl,nofun,λ_=>by rfl'⟩ (λ_=>⟨by rfl',by rfl'⟩) nofun nofun),(.of (by rfl') ⟨_,rfl,rfl,nofun,λ_=>by rfl'⟩ (λ_=>⟨by rfl',by rfl'⟩) nofun nofun),trivial⟩
theorem cF(C:Nat)(k:Cls)(e:look C T.cls=some k):ClsAt C k:=cls_all.at e
variable {y:Y} {u:V} {L:Hp} {h:Heap}
theorem Up.kin(U:Up h):KF.In h:=λa o e=>U.keep a o (Mine.kin a o e)
theorem kI{i j:Nat}(q:Nat.beq j i=false):nm j≠nm i:=λz=>by have:=i6 _ _ z;subst this;rw[Nat.beq_refl] at q;cases q
theorem kY{e:DictEntry}{i j:Nat}(k:∃t,e.key=.str (nm j) t):e.key.isStr (nm i)=Nat.beq j i:=by
 obtain⟨t,k⟩:=k;rw[k];cases q:Nat.beq j i with
 | true=>rw[qH q];exact beq_self_eq_true (nm i)
 | false=>exact beq_eq_false_iff_ne.mpr (kI q)
noncomputable abbrev jx(y:Y):List (Nat×V)->List DictEntry->Prop:=All2 (NmR y)
theorem jW{i:Nat}{fs:List (Nat×V)}{ds:List DictEntry}(r:jx y fs ds):(look i fs=none->ds.find? (·.key.isStr (nm i))=none)/\∀u,look i fs=some u->∃e,ds.find? (·.key.isStr (nm i))=some e/\VRel y u e.val:=by
 induction r with
 | nil=>exact⟨λ_=>rfl,nofun⟩
 | @cons p e fs ds x r ih =>
  refine(?_:((match Nat.beq p.1 i with|true=>some p.2|false=>look i fs)=none->_)/\∀u,(match Nat.beq p.1 i with|true=>some p.2|false=>look i fs)=some u->_);refine(List.find?_cons).symm▸?_;refine(kY x.1).symm▸?_;cases Nat.beq p.1 i with
  | true=>exact⟨nofun,λu e'=>⟨e,rfl,qJ e'▸x.2⟩⟩
  | false=>exact ih
theorem lj{fs:List (Nat×V)}{ds:List DictEntry}(r:jx y fs ds):ds.any (·.refKey)=false:=by
 induction r with
 | nil=>rfl
 | cons x r ih=>rw[List.any_cons,ih,Bool.or_false,DictEntry.refKey,x.1.choose_spec]
theorem fs_put{i:Nat}{v:Value}{hsh:Int}{t:Tok}(rv:VRel y u v){fs:List (Nat×V)}{ds:List DictEntry}(r:jx y fs ds):jx y (put i u fs) (putL (nm i) hsh (.str (nm i) t) v ds):=by
 induction r with
 | nil=>exact .cons ⟨⟨t,rfl⟩,rv⟩ .nil
 | @cons p e fs ds x r ih =>
  refine(?_:jx y (match Nat.beq p.1 i with|true=>(p.1,u)::fs|false=>p::put i u fs) (putL (nm i) hsh (.str (nm i) t) v (e::ds)));unfold putL;refine(kY x.1).symm▸?_;cases Nat.beq p.1 i with
  | true=>exact .cons ⟨x.1,rv⟩ r
  | false=>exact .cons x ih
theorem nq:∀k,handedIn (.builtin (biN k))=true
 | 0=>by decide +kernel
 | 1=>by decide +kernel
 | 2=>by decide +kernel
 | 3=>by decide +kernel
 | _+4=>by show handedIn (.builtin "abs")=true;decide +kernel
theorem gr{v:Value}(x:VRel y u v):handedIn v=true:=by
 have x:=x.now;cases u with
 | bi k=>rw[show v=.builtin (biN k) from x];exact nq k
 | non=>cases x;rfl
 | bool _=>cases x;rfl
 | top _=>cases x;rfl
 | ty _=>cases x;rfl
 | int _=>obtain⟨_,rfl⟩:=x;rfl
 | str _=>obtain⟨_,rfl⟩:=x;rfl
 | bytes _=>obtain⟨_,rfl⟩:=x;rfl
 | _=>obtain⟨_,rfl,_⟩:=x;rfl
theorem eO{ox:Obj}(h:ox.data=.plain\/∃vs,ox.data=.fields vs):notCls ox=true:=by
 unfold notCls;rcases h with h|⟨vs,h⟩<;>rw[h]
theorem can_o:Manifest.canonical "object.__getattribute__"="object.__getattribute__":=by decide +kernel
theorem ip{C a:Nat}{P:Prop}(h:fK C a=true)(f:∀k,look C T.cls=some k->k.attrs.elem a=true->P):P:=by
 unfold fK at h;cases e:look C T.cls with
 | none=>rw[e] at h;cases h
 | some k=>rw[e] at h;exact f k e h
theorem fP{C:Nat}{P:Prop}(h:eW C=true)(f:∀k,look C T.cls=some k->k.isExc=true->P):P:=by
 unfold eW at h;cases e:look C T.cls with
 | none=>rw[e] at h;cases h
 | some k=>rw[e] at h;exact f k e h
structure Own (y:Y) (K a:Nat) (fs:List (Nat×V)) (x:Addr) (ox:Obj) (ad:Addr) (ds:List DictEntry) (n:Nat):Prop where
 at':y.h.get? x=some ox
 cls:ox.cls=.ref K
 dict:ox.dict=some ad
 pl:ox.data=.plain\/∃vs,ox.data=.fields vs
 has:fK K a=true
 dat:y.h.get? ad=some (dictOf ds n)
 nms:jx y fs ds
 few:ds.length<=900
inductive OwnAt (L:Hp) (n:Hd) (K a:Nat) (d:Hd) (fs:List (Nat×V)):Prop
 | inst (m:(n,O.inst K d)∈L) (m':(d,O.ns fs)∈L) (h:fK K a=true)
 | exc (m:(n,O.exc K (some d))∈L) (m':(d,O.ns fs)∈L) (h:fK K a=true)
@[elab_as_elim] theorem eown{K a:Nat}{n dd:Hd}{fs:List (Nat×V)}{u:Value}{C:Value->Prop}(R:Rel y L)(o:OwnAt L n K a dd fs)(x:VRel y (.ref n) u)
  (f:∀x ox ad ds m,y.θ dd=some ad->Own y K a fs x ox ad ds m->C (.ref x)):C u:=by
 cases o with
 | inst m m' h=>exact bf R m x λx ob ex g ⟨ad,e1,e2⟩=>eN R m' e2 λod e3 ⟨ds,k,e4,r,z⟩=>f x ob ad ds k e2 ⟨g,by rw[e1],by rw[e1],by rw[e1];exact .inl rfl,h,e4▸e3,r,z⟩
 | exc m m' h =>
  refine bf R m x λx ob ex g ⟨ad,e1,e2,_⟩=>?_;cases ad with
  | none=>exact e2.elim
  | some ad=>exact eN R m' e2 λod e3 ⟨ds,k,e4,r,z⟩=>f x ob ad ds k e2 (by cases e1;exact⟨g,rfl,rfl,.inr ⟨_,rfl⟩,h,e4▸e3,r,z⟩)
theorem get_own{K a:Nat}{fs:List (Nat×V)}{x ad:Addr}{ox:Obj}{ds:List DictEntry}{m:Nat}{en:DictEntry}{A:Around}{Q X:Value->Shared->Prop}(U:Up y.h)(o:Own y K a fs x ox ad ds m)(f:ds.find? (·.key.isStr (nm a))=some en)(hh:handedIn en.val=true)
  (q:∀t,Q en.val {y.s with toks:=t}):PySem.wpAny M A (getAttr (.ref x) (nm a) true) Q X y.s:=ip o.has λk hk hm=>by
 have Z:=cF _ k hk;refine nn λno=>?_;obtain⟨cd,hcd,hdd,hx,hi⟩:=Z.cd;refine no ?_;cases z:k.isExc with
 | true=>exact exc_get U.kin hcd hdd (Z.attr _ hm) (Z.exc z).2.1 Z.ga (Z.base z) o.at' o.cls o.dict (eO o.pl) o.dat f hh q
 | false=>exact jv U.kin hcd hdd (Z.attr _ hm) (Z.inst z).2 o.at' o.cls o.dict (eO o.pl) o.dat f hh q
theorem VRel.tok{v:Value}{t:Nat}(x:VRel y u v):VRel (y.to y.h t) u v:=x.mono (.idle (.refl _))
section
variable {g:G} {fr:Fr} {Q:V->Fr->Hp->Prop} {E:Hd->Fr->Hp->Prop} {n dd:Hd} {K a:Nat} {fs:List (Nat×V)} {v x:V} {uv xv:Value} {w:Wn g fr L}
theorem gc(o:OwnAt L n K a dd fs)(h:look a fs=some x)(q:Q x fr L):HA (.ref n) a fr L Q E:=λg w _ r z=>eown w.now.rel o r λ_ _ _ _ _ _ o =>
 ((jW o.nms).2 _ h).elim λe f=>lw (get_own w.now.rel.up o f.1 (gr f.2) λt=>z.toks f.2.tok q)
theorem isL_e{v:V}{k:Nat}(h:isL v=some k):v=.ref (.l k):=by cases v with
 | ref n=>cases n with
  | l _=>exact qF (λk=>V.ref (.l k)) (qJ h)
  | s _=>exact bA h
 | _=>exact bA h
theorem isInst_e{o:O}{p:Nat×Nat}(h:isInst o=some p):o=.inst p.1 (.l p.2):=by cases o with
 | inst C d=>cases d with
  | l _=>exact qJ h▸rfl
  | s _=>exact bA h
 | _=>exact bA h
theorem isNs_e{o:O}{fs:List (Nat×V)}(h:isNs o=some fs):o=.ns fs:=by cases o with
 | ns _=>exact qF O.ns (qJ h)
 | _=>exact bA h
theorem gx{α β:Type}{o:Option α}{f:α->Option β}{b:β}{P:Prop}(h:o.bind f=some b)(k:∀x,o=some x->f x=some b->P):P:=(Option.bind_eq_some_iff.mp h).elim λx z=>k x z.1 z.2
theorem ii{p:Ins}{P:Prop}(h:dE v L=some p)(f:∀k,v=.ref (.l k)->(.l k,O.inst p.1.1 (.l p.1.2))∈L->eR p.1.2 L=some (.ns p.2)->P):P :=
 gx h λk h1 h=>gx h λo h2 h=>gx h λq h3 h=>gx h λx h4 h=>gx h λfs h5 h=>by
  cases h;exact f k (isL_e h1) (a9 (isInst_e h3▸h2)) (isNs_e h5▸h4)
theorem attW_ok(r:VRel w.y v uv):R VRel w (getAttr uv (nm a) true) (attW v a):=R.at' (m:=λ_ L=>aD (dE v L) (HA v a) λp=>bg (fK p.1.1 a) (aD (look a p.2) (HA v a) .ret) (HA v a)) <|
 .opt (.op1 r) λp ep=>.bool (λha=>.opt (.op1 r) λx ex Q E z q=>ii ep λk e m g=>by cases e;exact gc (.inst m (a9 g) ha) ex q w r z) (.op1 r)
theorem cr{L':Hp}{Q:Unit->Fr->Hp->Prop}(o:OwnAt L n K a dd fs)(ch:Chg L dd (.ns fs) (.ns (put a x fs)) L')(hl:Nat.ble fs.length 100=true)(q:Q () fr L'):UA (.ref n) a x fr L Q E:=λg w u xv r rx z=>eown w.now.rel o r λxa ox ad ds m ed o=>by
 have hl:=r9 hl;have fin:∀t t',z.P () {w.y.s with heap:=w.y.h.update ad (Obj.putName (nm a) (PyData.keyHash w0.params (nm a)) (.str (nm a) t) xv),toks:=t'}:=λt t'=>by
  have up:(w.y.h.update ad (Obj.putName (nm a) (PyData.keyHash w0.params (nm a)) (.str (nm a) t) xv)).get? ad=some (dictOf (putL (nm a) (PyData.keyHash w0.params (nm a)) (.str (nm a) t) xv ds) (putN (nm a) ds m)):=by
   rw[r5 _ o.dat (by rw[putName_dict];rfl),putName_dict]
  exact z.upd ch ed o.dat (qY ..) rfl nofun up (λy' k=>⟨_,_,rfl,fs_put ((rx.mono (.but o.dat (qY ..) rfl nofun)).mono k) (o.nms.mono λ_ _ x=>⟨x.1,(x.2.mono (.but o.dat (qY ..) rfl nofun)).mono k⟩),qC (gL ..) (qC (r7 (o.nms.len▸hl)) (by decide))⟩) trivial q
 exact ip o.has λkc hk hm=>by
  have Z:=cF _ kc hk;refine nn λno=>?_;obtain⟨cd,hcd,hdd,hx,hi⟩:=Z.cd;refine no ?_;have f1:=lj o.nms;cases e:kc.isExc with
  | true=>exact exc_set w.now.rel.up.kin hcd hdd (hx e) (Z.exc e).2.2 (Z.attr _ hm) Z.sa o.at' o.cls o.dict (eO o.pl) o.dat (.inr f1) o.few fin
  | false=>exact lw<|qt w.now.rel.up.kin o.at' o.cls o.dict (eO o.pl) o.dat Z.sa (by unfold plainOver;rw[hcd];exact hi e) (by unfold takerIn;rw[Z.attr _ hm];rfl) (by unfold hasDictIn;rw[hcd];exact hdd) (.inr f1) o.few fin
theorem attU_ok(r:VRel w.y v uv)(rx:VRel w.y x xv):R Ur w (setAttr uv (nm a) xv) (attU v a x):=R.at' (m:=λ_ L=>aD (dE v L) (UA v a x) λp=>bg (fK p.1.1 a&&Nat.ble p.2.length 100) (setL () (il p.1.2 (.ns (put a x p.2)) L)) (UA v a x)) <|
 .opt (.op2 r rx) λp ep=>.bool (λha Q E z q=>ii ep λk e m g=>by cases e;exact cr (.inst m (a9 g) (ae ha)) (aa g) (a8 ha) q w r rx z) (.op2 r rx)
end
end
section
section
variable {α β γ:Type} {rel:Y->α->β->Prop} {g:G} {fr:Fr} {L:Hp} {w:Wn g fr L} {t:Sem β} {m:Ab α}
theorem R.rls{a b:List Value}(h:R rel w t m):R rel w (release a b>>=λ_=>t) m:=λQ E z q=>a0 (lw<|wpAny_release (h Q E z q))
theorem R.behind{t:Sem Unit}{m:Ab Unit}{a b:List Value}(h:R Ur w t m):R Ur w (t>>=λ_=>release a b) m:=h.thn λ_ _ _ _=>.val trivial λh=>lw<|wpAny_release h
theorem R.letGo{e:Expr}{o:Value}{rel:Y->α->Value->Prop}{t:Sem Value}{m:Ab α}(h:R rel w t m):R rel w (t>>=λr=>letTemporaryGo e o r>>=λ_=>Pure.pure r) m:=h.thn λ_ _ _ r=>.val r λh=>a0 (lw<|wpAny_letTemporaryGo (a7 h))
noncomputable def Wn.idle(w:Wn g fr L){h':Heap}(i:Idle w.y.h h')(n:Nat):Wn g fr L:=⟨w.y.to h' n,w.now.idle i n⟩
theorem Le.idle{w:Wn g fr L}{h':Heap}(i:Idle w.y.h h')(n:Nat):Le w (w.idle i n):=Mv.idle i n
end
theorem jw{x:X}{a:Str}{env:Env}{whole:Sem Value}:attributeBase (xe x) a env whole=whole:=by
 cases x with
 | call f xs p=>cases f with
  | nam k i q =>
   refine(?_:attributeBase (.Call (.Name (nm i) q) (er xs).l [] p) a env whole=whole);cases(er xs).l with
   | nil =>
    refine(?_:(if(nm i != ("super":Str)||a==("__class__":Str)||env.kindOf ("super":Str) != some .globalImplicit||env.kindOf ("__class__":Str) != some .free)=true then whole else _)=whole);refine(nm_sup i).symm▸?_;exact if_pos rfl
   | cons _ _=>rfl
  | sq k xs p=>cases k<;>rfl
  | _=>rfl
 | sq k xs p=>cases k<;>rfl
 | _=>rfl
section
variable {x z r l xs o lo hi st:X} {p:Pos} {g:G} {fr:Fr} {L:Hp} {w:Wn g fr L}
theorem snd_attr{a:Nat}(ho:aP o):aP (.attr o a p):=.ofT (λ_ _=>rfl) (λ{g fr L} w k=>by
 refine(?_:R VRel w (do let ov <-attributeBase (xe o) (nm a) g.env (eval (xe o) g.env);standAt p.atName;let r <-holding [ov] (getAttr ov (nm a) true);letTemporaryGo (xe o) ov r;pure r) _);rw[jw];exact .bind (ho.val w k) λrt v u l r=>.stand (.letGo (.hold (attW_ok r)))) λw _ _ k rx=>.bind (.hold (ho.val w k)) λrt v u l r=>.stand (.behind (.hold (attU_ok r (rx.mono l.toYl))))
theorem R.gets{sl e:Expr}{o i:Value}{m:Ab V}(hs:subscripted sl false o i=operate [o,i] (getItem o i)\/subscripted sl false o i=operate [i,o] (getItem o i))(h:∀Q E (z:Fz VRel w Q E),m fr L Q E->k9 g.A o i z.P z.X w.y.s):
  R VRel w (do let r <-subscripted sl (<-getitemInPython o) o i;letTemporaryGo e o r;Pure.pure r) m:=λQ E z q=>by
 refine nn λno=>?_;obtain⟨T,id,hT,hl,k⟩:=h Q E z q;refine no ?_;have k:=ag k (λr s h=>show wpAny M g.A (letTemporaryGo e o r>>=λ_=>Pure.pure r) z.P z.X s from a0 (lw<|wpAny_letTemporaryGo (a7 h))) λ_ _ x=>x;refine a0 ?_;refine(getitemInPython_of_ne hT.not_modules).symm▸?_;refine a0 (lw<|qR hT hl (a7 (a0 ?_)));exact hs.elim (λe=>by rw[e];exact c9 k) λe=>by rw[e];exact c9 k
theorem gets_tup{A:Around}{P X:Value->Shared->Prop}{s:Shared}{vs:List Value}{ad:Addr}{n:Nat}{k:Int}{t:Tok}{j:Nat}{x:Value}(e:s.heap.get? ad=some (ku vs n))(i:iX k vs.length=some j)(hy:vs[j]?=some x)(q:P x s):k9 A (.ref ad) (.int k t) P X s :=
 have b:=cD i
 ⟨"tuple",_,⟨_,e,rfl⟩,slot_tuple_getitem.lookup,lw<|PySem.P.getItem_tuple e (by omega) (by omega) (gU i) (List.getElem?_toArray▸hy) q⟩
theorem itW_ok{v k:V}{vv kv:Value}{Q:V->Fr->Hp->Prop}{E:Hd->Fr->Hp->Prop}(r:VRel w.y v vv)(rk:VRel w.y k kv)(z:Fz VRel w Q E)(q:itW v k fr L Q E):k9 g.A vv kv z.P z.X w.y.s:=by
 exists w r rk z q,zG g,zF fr,zL L,zv v,zv k,zV vv,zV kv,aK Q,aK E;have fb:HI v k fr L Q E->k9 g.A vv kv z.P z.X w.y.s:=λq=>q w r rk z;unfold itW at q;cases e1:isT v with
 | none=>rw[e1] at q;exact fb q
 | some l =>
  rw[e1] at q;cases e2:lT k with
  | none=>rw[e2] at q;exact fb q
  | some i =>
   rw[e2] at q;change aD (iX i l.length) _ _ fr L Q E at q;cases e3:iX i l.length with
   | none=>rw[e3] at q;exact fb q
   | some j =>
    rw[e3] at q;change aD (l[j]?) _ _ fr L Q E at q;cases e4:l[j]? with
    | none=>rw[e4] at q;exact fb q
    | some a =>
     rw[e4] at q;refine nn λno=>?_;cases isT_e e1;cases eH e2;refine no ?_;exact bl rk λt=>etup r λad vs n e rv=>(rv.get e4).elim λx h=>gets_tup e (rv.len▸e3) h.1 (z.now h.2 q)
theorem snd_sub(ho:aP o)(hx:aP x):aP (.sub o x p):=.ofT (λ_ _=>rfl) (λw k =>
 .bind (ho.val w (ae k)) λrt v u l r=>.bind (.hold (hx.val rt (a8 k))) λro i j l' r'=>.stand (.gets (.inl ((form x).subs _ _)) λQ E z q=>itW_ok (r.mono l'.toYl) r' z q)) λw _ _ k rx =>
 .bind (.hold (ho.val w (ae k))) λrt v u l r=>.bind (.hold (hx.val rt (a8 k))) λro i j l' r'=>.stand (.behind (.hold λQ E z q=>q ro (r.mono l'.toYl) r' (rx.mono (l.trans l').toYl) z))
end
end
section
section
variable {x z r l xs o lo hi st t:X} {p sp:Pos} {g:G} {fr:Fr} {L:Hp} {w:Wn g fr L}
theorem snd_nil:aP .nil :=
 ⟨λ_ _=>.pure jA,λ_ _=>.no,λa _ _ _ w _=>by cases a<;>exact .pure rfl,λ_ _ _ _ _ _=>.no,λ_ _ _ _ _ _=>.pure .nil,λ_ _ _=>.no,λ_ _ _=>.pure rfl,λ_ _ _ _ _=>.no,λ{g fr L} w vs us _ r=>by
  cases r with
  | nil=>exact .pure trivial
  | cons _ _=>exact .no,λ_ _ _ _ _ _ _=>.pure .nil,λ_ _ _ _ _ _ _ h _ _=>bA h⟩
theorem fk(ho:opt x=true)(hx:aP x)(w:Wn g fr L)(k:kd g.env x=true):R VRel w (valueOrNone (evalOpt (er x).o g.env)) (wp g.d x g.hd).val:=by
 rcases kG ho with rfl|ho
 .exact .pure jA
 .rw[ho];exact hx.val w k
inductive SlR (y:Y) (p:V×V×V):Value->Prop
 | mk (s:Addr) (a b c:Value) (h:y.h.IsSliceOf s a b c) (ra:VRel y p.1 a) (rb:VRel y p.2.1 b) (rc:VRel y p.2.2 c):SlR y p (.ref s)
theorem slc_ok{α:Type}{rel:Y->α->Value->Prop}{a b c:V}{q:α}{u v t:Value}(ra:VRel w.y a u)(rb:VRel w.y b v)(rc:VRel w.y c t)(k:∀{y i},SlR y (a,b,c) i->rel y q i):R rel w (newFields "slice" [u,v,t]) (.ret q):=λQ E z q=>by
 have yl:=Yl.idle (n:=w.y.s.toks) (.push w.y.h {cls:=.type "slice",data:=.fields #[u,v,t]});exact lw<|wpAny_newObj_type (z.idle (.push _ _) (k ⟨_,_,_,_,Heap.IsSliceOf.new _ _ _ _,ra.mono yl,rb.mono yl,rc.mono yl⟩) q) (by size_fits)
theorem slice_ok(h1:aP lo)(h2:aP hi)(h3:aP st)(k:(kd g.env lo&&(kd g.env hi&&kd g.env st))=true)(o:(opt lo&&(opt hi&&opt st))=true)(w:Wn g fr L):
  R SlR w (do let l <-valueOrNone (evalOpt (er lo).o g.env);let u <-holding [l] (valueOrNone (evalOpt (er hi).o g.env));let s <-holding [l,u] (valueOrNone (evalOpt (er st).o g.env));newFields "slice" [l,u,s])
   ((wp g.d lo g.hd).val.bind λl=>(wp g.d hi g.hd).val.bind λu=>(wp g.d st g.hd).val.bind λt=>.ret (l,u,t)) :=
 .bind (fk (ae o) h1 w (ae k)) λrt a _ _ ra=>.bind (.hold (fk (ae (a8 o)) h2 rt (ae (a8 k)))) λro b _ rA rb=>.bind (.hold (fk (a8 (a8 o)) h3 ro (a8 (a8 k)))) λrF c _ rG rc=>slc_ok (ra.mono (rA.trans rG).toYl) (rb.mono rG.toYl) rc id
theorem hz_ok{v:V}{u i:Value}{q:V×V×V}{sl e:Expr}(hs:subscripted sl false u i=operate [u,i] (getItem u i)\/subscripted sl false u i=operate [i,u] (getItem u i))(r:VRel w.y v u)(rs:SlR w.y q i):
  R VRel w (do let r <-subscripted sl (<-getitemInPython u) u i;letTemporaryGo e u r;Pure.pure r) (HZ v q.1 q.2.1 q.2.2):=by
 cases rs with
 | mk s a b c h ra rb rc=>exact .gets hs λQ E z q=>q w r ra rb rc h z
theorem uz_ok{v x:V}{u i xv:Value}{q:V×V}(r:VRel w.y v u)(rs:SlR w.y (q.1,q.2,.non) i)(rx:VRel w.y x xv):R Ur w (setItem u i xv) (UZ v q.1 q.2 x):=by
 cases rs with
 | mk s a b c h ra rb rc=>exact λQ E z q=>q w r ra rb rx ((show c=.none from rc.now)▸h) z
theorem pR(h1:aP lo)(h2:aP hi)(k:(kd g.env lo&&kd g.env hi)=true)(o:(opt lo&&opt hi)=true)(w:Wn g fr L):
  R (λy (q:V×V)=>SlR y (q.1,q.2,.non)) w (do let l <-valueOrNone (evalOpt (er lo).o g.env);let u <-holding [l] (valueOrNone (evalOpt (er hi).o g.env));let s <-holding [l,u] (Pure.pure .none);newFields "slice" [l,u,s])
   ((wp g.d lo g.hd).val.bind λl=>(wp g.d hi g.hd).val.bind λu=>.ret (l,u)) :=
 .bind (fk (ae o) h1 w (ae k)) λrt a _ _ ra=>.bind (.hold (fk (a8 o) h2 rt (a8 k))) λro b _ rA rb Q E z q=>a0 (ac (a7 (slc_ok (rel:=λy (q:V×V)=>SlR y (q.1,q.2,.non)) (q:=(a,b)) (ra.mono rA.toYl) rb jA id Q E z q)))
theorem snd_subs(ho:aP o)(h1:aP lo)(h2:aP hi)(h3:aP st):aP (.subs o lo hi st sp p):=.ofT (λ_ _=>rfl)
 (λw k=>.bind (n:=λv=>Ab.bind _ λq:V×V×V=>HZ v q.1 q.2.1 q.2.2) (ho.val w (ae (ae k))) λrt v u l r=>.bind (.hold (slice_ok h1 h2 h3 (a8 (ae k)) (a8 k) rt)) λro q i rA rs =>
  .stand (hz_ok (by cases(er st).o<;>first|exact .inr rfl|exact .inl rfl) (r.mono rA.toYl) rs))
 λ{g fr L} w _ _ k rx=>.boolN λh=>.bind (n:=λv=>Ab.bind ((wp g.d lo g.hd).val.bind λl=>(wp g.d hi g.hd).val.bind λu=>.ret (l,u)) λq:V×V=>UZ v q.1 q.2 _) (.hold (ho.val w (ae (ae k)))) λrt v u l r=>by
  cases i7 h;exact .bind (.hold (pR h1 h2 (Bool.and_eq_true_iff.mpr ⟨ae (a8 (ae k)),ae (a8 (a8 (ae k)))⟩) (Bool.and_eq_true_iff.mpr ⟨ae (a8 k),ae (a8 (a8 k))⟩) rt)) λro q i rA rs=>.stand (.behind (.hold (uz_ok (r.mono rA.toYl) rs (rx.mono (l.trans rA).toYl))))
theorem snd_cmp2{c c2:Cm}(hl:aP l)(hm:aP x)(hr:aP r):aP (.cmp2 l c x c2 r p):=.ofE (λ_ _=>.no) λ{g fr L} w k=>by
 refine(?_:R Br w (do testChain p (<-eval (xe l) g.env) [iB c,iB c2] [eval (xe x) g.env,markedBehindIn (iB c2) (xe r) (eval (xe r) g.env)]) _);refine(mM).symm▸?_;exact .bind (hl.val w (ae k)) λrt a u le ra=>.bind (.hold (hm.val rt (ae (a8 k)))) λro b v le' rb=>.stand (.bind (.hold (gY (ra.mono le'.toYl) rb)) λrF q cv tI rq=>.rls (.bind (n:=λu=>.ite u _ _) (m:=.ret q) (.hold (o6 rq)) λrJ q' b' tJ e=>.ite e (.bind (.hold (hr.val rJ (a8 (a8 k)))) λrZ e v' tK re=>.stand (.thn (.oper (gY ((rb.mono tI.toYl).mono (tJ.trans tK).toYl) re)) λsr _ _ rc=>.hold (o6 rc))) (.pure rfl)))
end
end
section
section
variable {α β γ δ:Type} {rel:Y->α->β->Prop} {x z r xs:X} {p:Pos} {g:G} {fr:Fr} {L:Hp} {w:Wn g fr L} {us:List V} {vs:List Value}
theorem dY(x:X)(rest:List Expr)(env:Env):starEach (xe x::rest) env=(false,eval (xe x) env)::starEach rest env:=(form x).star rest env
theorem eY(x:X)(rest:List Expr)(env:Env):assignEach (xe x::rest) env=(false,assign (xe x) env)::assignEach rest env:=(form x).plain rest env
theorem R.stand'{t:Sem β}{m:Ab α}(h:R rel w t m):R rel w (t>>=λx=>standAt p>>=λ_=>Pure.pure x) m:=h.thn λ_ _ _ r=>.stand (.pure r)
theorem R.pur{f:δ->Sem β}{b:δ}{m:Ab α}(h:R rel w (f b) m):R rel w (Pure.pure b>>=f) m:=λQ E z q=>a0 (a7 (h Q E z q))
theorem R.allAnd{e:Expr}{es:List Expr}{m n:Ab Bool}(h:R Br w (isTrue e g.env (eval e g.env)) m)(k:∀{fr' L'} (w':Wn g fr' L'),R Br w' (allTrue .And es g.env) n):R Br w (allTrue .And (e::es) g.env) (m.bind λb=>.ite b n (.ret false)):=λQ E z q =>
 cW (h _ _ (.mk (λb s=>if b then wpAny M g.A (allTrue .And es g.env) z.P z.X s else z.P false s) z.X ⟨λw' a b l e q=>by
  cases e;cases a with
  | true=>exact k w' Q E (z.mv l) q
  | false=>exact z.ok w' false false l rfl q,z.ex⟩) q)
theorem R.allOr{e:Expr}{es:List Expr}{m n:Ab Bool}(h:R Br w (isTrue e g.env (eval e g.env)) m)(k:∀{fr' L'} (w':Wn g fr' L'),R Br w' (allTrue .Or es g.env) n):R Br w (allTrue .Or (e::es) g.env) (m.bind λb=>.ite b (.ret true) n):=λQ E z q =>
 dq (h _ _ (.mk (λb s=>if b then z.P true s else wpAny M g.A (allTrue .Or es g.env) z.P z.X s) z.X ⟨λw' a b l e q=>by
  cases e;cases a with
  | true=>exact z.ok w' true true l rfl q
  | false=>exact k w' Q E (z.mv l) q,z.ex⟩) q)
theorem R.and2{t:Sem Value}{ts:List (Sem Value)}{u:Sem Value}{m n:Ab V}(h:R VRel w t m)(k:∀{fr' L'} (w':Wn g fr' L'),R VRel w' (boolOp p .And (u::ts)) n):R VRel w (boolOp p .And (t::u::ts)) (m.bind λv=>(pK v).bind λb=>.ite b n (.ret v)) :=
 .bind h λrt v a l ra=>.stand (.bind (n:=λb=>.ite b n (.ret v)) (.hold (jC ra)) λro b c rA e=>by
  cases e;cases b with
  | true=>exact k ro
  | false=>exact .pure (ra.mono rA.toYl))
theorem R.spl{t:Sem Value}{ts:List (Bool×Sem Value)}{m:Ab V}{n:Ab (List V)}(h:R VRel w t m)(k:∀{fr' L'} (w':Wn g fr' L'),R VsRel w' (spliced ts) n):R VsRel w (spliced ((false,t)::ts)) (m.bind λv=>n.bind λvs=>.ret (v::vs)) :=
 .bind h λrt v a l ra=>.pur (.bind (.hold (k rt)) λro vs as rA rs=>.pure (.cons (ra.mono rA.toYl) rs))
theorem R.nx{st:Stmt}{sts:List Stmt}{m n:Ab Fl}(h:R flrel w (exec st g.env) m)(k:∀{fr' L'} (w':Wn g fr' L'),R flrel w' (execs sts g.env) n):R flrel w (execs (st::sts) g.env) (i5 m n):=λQ E z q =>
 fU (h _ _ (.mk (λf s=>match f with|.next=>wpAny M g.A (execs sts g.env) z.P z.X s|f=>z.P f s) z.X ⟨λw' f fl l rf q=>by
  cases f with
  | next=>cases rf;exact k w' Q E (z.mv l) q
  | ret v=>exact rf.elim λu e=>by cases e.1;exact z.ok w' (.ret v) (.ret u) l ⟨u,rfl,e.2⟩ q,z.ex⟩) q)
theorem vk_form{x:X}{n:Nat}:(ij x).vk=some n->∃z r,x=.cons z r:=X.view (C:=λx=>(ij x).vk=some n->∃z r,x=.cons z r) (λh=>bA h) (λz r _ _=>⟨z,r,rfl⟩) (λx i h=>bA (i.vk.symm.trans h)) x
theorem snd_cons(hx:aP x)(hr:aP r):aP (.cons x r) where
 val:=λ_ _=>.no
 tru:=λ_ _=>.no
 tB:=λa {g fr L} w k=>by
  cases a with
  | true=>exact .allAnd (hx.tru w (ae k)) λw'=>hr.tB true w' (a8 k)
  | false=>exact .allOr (hx.tru w (ae k)) λw'=>hr.tB false w' (a8 k)
 vAnd:=λp {g fr L} w k=>.bool (λh=>by
  cases i7 h;exact hx.val w (ae k)) (.boolN λh=>by
  obtain⟨z,r,rfl⟩:=gk h;exact .and2 (hx.val w (ae k)) λw'=>hr.vAnd p w' (a8 k))
 vals:=λp {g fr L} w k=>by
  refine(?_:R VsRel w (spliced (backTo p (starEach (xe x::xl r) g.env))) _);rw[dY];exact .spl (hx.val w (ae k)) λw'=>hr.vals p w' (a8 k)
 stm:=λ_ _ _=>.no
 stms:=λw k b=>.nx (hx.stm w (ae k) b) λw'=>hr.stms w' (a8 k) b
 asg:=λ_ _ _ _ _=>.no
 asgs:=λ{g fr L} w vs us k rv=>by
  cases rv with
  | nil=>exact .no
  | @cons v u vs us rv rvs =>
   refine(?_:R Ur w (assignInOrder ((assignEach (xe x::xl r) g.env).map (·.2)) (u::us)) _);rw[eY];exact R.bind (m:=(wp g.d x g.hd).asg v) (n:=λ_=>(wp g.d r g.hd).asgs vs) (.hold (hx.asg w (ae k) rv)) λrt _ _ l _=>hr.asgs rt (a8 k) (VsRel.mono l.toYl rvs)
 prs:=λ{n} p {g fr L} w h k=>by
  obtain⟨z,r,rfl⟩:=vk_form (x:=r) h;exact R.bind (m:=(wp g.d x g.hd).val) (n:=λv=>(wp g.d (.cons z r) g.hd).vals.bind λvs=>pW (v::vs)) (hx.val w (ae k)) λrt v u l rv=>hr.prs2 p rt h (a8 k) rv
 prs2:=λ{n} p {g fr L} w {kv u} h k rk=>by
  cases q:(ij r).kk with
  | none=>exact bA (a:=n) ((qF (Option.map (·+1)) q).symm.trans h)
  | some m=>exact R.bind (m:=(wp g.d x g.hd).val) (n:=λv=>((wp g.d r g.hd).vals.bind pW).bind λl=>.ret ((kv,v)::l)) (.hold (.stand' (hx.val w (ae k)))) λrt v a l rv=>.bind (.hold (hr.prs p rt q (a8 k))) λro ps qs rA rp=>.pure (.cons ⟨rk.mono (l.trans rA).toYl,rv.mono rA.toYl⟩ rp)
end
end
section
section
variable {α β:Type} {rel:Y->α->β->Prop} {g:G} {fr:Fr} {L:Hp} {w:Wn g fr L} {Q:α->Fr->Hp->Prop} {E:Hd->Fr->Hp->Prop}
theorem gO{h h':Heap}{a:Addr}{m:Str->Option Value}(n:h.Ns a m)(sb:Heap.SameBut a h h'):Side (·=a) h h':=⟨λb o ne e=>(sb.2 b ne).trans e,qU sb.1.symm,λb o z e=>by
 refine nn λno=>?_;cases z;obtain⟨o',es,ep,e',d,_⟩:=n;cases e'.symm.trans e;refine no ?_;show(match o.cls,o.data with|.type n,.seq _ _=>n=="tuple" | .type n,.fields _=>n=="range"||n=="code" | _,_=>false)=false;refine(d).symm▸?_;cases o.cls<;>rfl⟩
theorem Fz.locals(z:Fz rel w Q E){m m':Str->Option Value}{h':Heap}{n:Nat}{lc:List (Nat×V)}(hn:w.y.h.Ns g.env.locals m)(hn':h'.Ns g.env.locals m')(sb:Heap.SameBut g.env.locals w.y.h h')
  (hl:Yl w.y (w.y.to h' n)->∀j v,look j lc=some v->∃x,m' (nm j)=some x/\VRel (w.y.to h' n) v x) {a:α} {b:β} (r:rel (w.y.to h' n) a b) (q:Q a ⟨lc,fr.cel⟩ L):z.P b {w.y.s with heap:=h',toks:=n} :=
 have F:=w.now.fr';have i:=gO hn sb;have fs:∀b,b=g.env.locals->¬w.y.own b:=λ_ z=>z▸F.fresh;have yl:=Yl.side (t:=n) fs i (λ_ _ e=>e) λ_ e=>e;have ex:∀a C ad b,w.y.own a->Exc w.y a C ad b->∃ad',Exc (w.y.to h' n) a C ad' b:=λp C ad b oa ⟨ob,e,q⟩=>⟨ad,ob,i.keep p ob (λz=>F.fresh (z▸oa)) e,q.mono yl⟩
 z.ok (fr':=⟨lc,fr.cel⟩) (L':=L) ⟨w.y.to h' n,w.now.at',w.now.rel.side (S:=(·=g.env.locals)) (λ_ z=>z▸F.above) fs i n,⟨⟨m',hn',hl yl⟩,F.cel,F.fresh,F.above⟩,w.now.stk.step (λ_ e=>e) ex λb o es n hm e d nb _=>⟨nb,(Classical.em (b=g.env.locals)).elim (λz=>by
   refine nn λno=>?_;obtain⟨o',es',ep',e',d',_⟩:=hn';refine no ?_;exact⟨o',es',ep',z▸e',d'⟩) λz=>⟨o,es,n,i.keep b o z e,d⟩⟩⟩ a b
  ⟨yl,rfl,rfl,i.size,λ_ e=>e,λ_=>.inl,ex,λb o _ e n f t=>i.keep b o (λz=>t (qF some z)) e,λb f t n o e=>⟨o.slots,i.keep b _ (λz=>t (qF some z)) e⟩⟩ r q
variable {x z r xs t b o e:X} {p q:Pos}
theorem cm{i:Nat}{v:V}{u:Value}(hk:bO (g.env.kindOf (nm i))=true)(r:VRel w.y v u):R Ur w (storeName g.env (nm i) u) (mH .loc i v):=λQ E z q=>by
 refine nn λno=>?_;obtain⟨m,hn,hm⟩:=w.now.fr'.loc;refine no ?_;refine lw<|wpAny_storeName_local (qD hk) hn (λh' hn' sb=>z.locals hn hn' sb (λyl j v' e=>?_) trivial q) (by rw[w.now.at'.fn];rfl);rw[c6] at e;cases hj:Nat.beq i j with
 | true =>
  rw[hj] at e;cases e;exact⟨u,if_pos (by rw[qH hj]),r.mono yl⟩
 | false =>
  rw[hj] at e;refine nn λno=>?_;obtain⟨x,hx,rx⟩:=hm j v' e;refine no ?_;exact⟨x,(if_neg (Ne.symm (kI hj))).trans hx,rx.mono yl⟩
theorem namU_ok{k:Nk}{i:Nat}{v:V}{u:Value}(hk:kd g.env (.nam k i p)=true)(r:VRel w.y v u):R Ur w (storeName g.env (nm i) u) (mH k i v):=by
 exists w k hk r,zG g,zF fr,zL L,zP p,zN i,zv v,zV u;cases k with
 | loc=>exact cm hk r
 | glo=>exact .no
 | cel =>
  refine R.at' (m:=λfr _=>aD (look i fr.cel) .no λm=>celU m v) (.optN λm e=>?_);cases m with
  | s _=>exact .no
  | l j =>
   refine R.at' (m:=λ_ L=>aD (eR j L) .no λo=>aD (lI o) .no λ_=>setL () (il j (.cell (some v)) L)) (.optN λo eo=>.optN λv' ev=>?_);refine nn λno=>?_;cases pi ev;refine no ?_;refine cel_at w hk e (a9 eo) λa x ha ea e2 _ Q E z q=>?_;have fin:wpAny M g.A (cellOf g.env (nm i)>>=λr=>cellSet r (some u)) z.P z.X w.y.s:=by
    refine a0 (lw<|wpAny_cellOf ha (a0 (bU e2 (lw<|wpAny_update e2 ?_))));exact z.upd (t:=w.y.s.toks) (aa eo) ea e2 (qY (f:=λo=>{o with data:=.cell (some u)}) ..) rfl nofun (r5 _ e2 rfl) (λy' yl=>show OR y' _ (.cell (some v)) from⟨some u,rfl,(r.mono (Yl.but e2 (qY (f:=λo=>{o with data:=.cell (some u)}) ..) rfl nofun)).mono yl⟩) (u:=()) trivial q
   have e:storeName g.env (nm i) u=(cellOf g.env (nm i)>>=λr=>cellSet r (some u)):=by
    refine oX (C:=λq=>g.env.kindOf (nm i)=q->storeName g.env (nm i) u=_) hk (λq=>?_) (λq=>?_) rfl
    all_goals (delta storeName;rw[q];refine(?_:(if(g.env.scope.kind==ScopeKind.class&&_)=true then _ else _)=_);rw[w.now.at'.fn];rfl)
   rw[e];exact fin
theorem snd_nam{k:Nk}{i:Nat}:aP (.nam k i p):=.ofT (λ_ _=>rfl) (λw h Q E z q=>hH (oJ w h Q E z q) (nm_dbg i)) λw _ _ h r=>λQ E z q=>bJ (namU_ok h r Q E z q)
end
end
section
section
variable {κ κ':Type} [DecidableEq κ'] {kf:κ->κ'} {eq:κ->κ->Bool} {y:Y}
theorem gu(p:κ'×Value)(r:List (κ'×Value))(k:κ')(v:Value)(nd:((p::r).map (·.1)).Nodup):stored (p::r) k v=if p.1=k then(p.1,v)::r else p::stored r k v:=by
 unfold stored;by_cases h:p.1=k
 .have:r.map (λkv=>if kv.1=k then(kv.1,v) else kv)=r:=by
   refine(List.map_congr_left λq m=>?_).trans (List.map_id r);exact if_neg λz=>(List.nodup_cons.mp nd).1 (List.mem_map.mpr ⟨q,m,z.trans h.symm⟩)
  rw[if_pos h,List.any_cons,List.map_cons,if_pos h,this,decide_eq_true h];exact if_pos rfl
 .rw[if_neg h,List.any_cons,List.map_cons,if_neg h,decide_eq_false h,Bool.false_or];cases r.any λkv=>decide (kv.1=k)<;>rfl
theorem gA{k:κ}{u:V}{v:Value}(he:∀j,eq j k=decide (kf j=kf k))(r:VRel y u v){es:List (κ×V)}{kvs:List (κ'×Value)}(h:All2 (pD kf y) es kvs)(nd:(kvs.map (·.1)).Nodup):All2 (pD kf y) (cH eq k u es) (stored kvs (kf k) v):=by
 induction h with
 | nil=>exact .cons ⟨rfl,r⟩ .nil
 | @cons p q es kvs x h ih =>
  rw[gu _ _ _ _ nd];show All2 _ (match eq p.1 k with|true=>(p.1,u)::es|false=>p::cH eq k u es) _;rw[he,x.1];by_cases z:q.1=kf k
  .rw[if_pos z,decide_eq_true z];exact .cons ⟨x.1,r⟩ h
  .rw[if_neg z,decide_eq_false z];exact .cons x (ih (List.nodup_cons.mp nd).2)
theorem jE(kvs:List (κ'×Value))(k:κ')(v:Value)(nd:(kvs.map (·.1)).Nodup):((stored kvs k v).map (·.1)).Nodup/\∀j∈(stored kvs k v).map (·.1),j=k\/j∈kvs.map (·.1):=by
 induction kvs with
 | nil=>exact⟨List.nodup_cons.mpr ⟨nofun,.nil⟩,λj m=>(List.mem_cons.mp m).imp_right nofun⟩
 | cons p r ih =>
  have n:=List.nodup_cons.mp nd;have ih:=ih n.2;rw[gu _ _ _ _ nd];by_cases h:p.1=k
  .rw[if_pos h];exact⟨nd,λj m=>.inr m⟩
  .rw[if_neg h];exact⟨List.nodup_cons.mpr ⟨λm=>(ih.2 _ m).elim h n.1,ih.1⟩,λj m=>(List.mem_cons.mp m).elim (λe=>.inr (e▸.head _)) λm=>(ih.2 j m).imp_right (.tail _)⟩
theorem kD(he:∀j k,eq j k=decide (kf j=kf k)){ps:List (κ×V)}{qs:List (κ'×Value)}(h:All2 (pD kf y) ps qs):∀{es:List (κ×V)} {kvs:List (κ'×Value)},All2 (pD kf y) es kvs->(kvs.map (·.1)).Nodup->All2 (pD kf y) (mF eq ps es) (merged kvs qs):=by
 induction h with
 | nil=>exact λr _=>r
 | @cons p q ps qs x h ih=>exact λr nd=>ih (show All2 _ (cH eq p.1 p.2 _) (stored _ q.1 q.2) from x.1▸gA (λj=>he j p.1) x.2 r nd) (jE _ _ _ nd).1
end
theorem px{y:Y}:∀{ps:List (V×V)} {vs:List (Value×Value)} {es:List (Int×V)},pA y ps vs->allI ps=some es->∃qs,Carries (intKind prog w0) vs qs/\All2 (pD id y) es qs
 | [],_,_,r,e=>by cases r;cases e;exact⟨[],trivial,.nil⟩
 | (k,v)::ps,_,es,r,e=>by
  cases r with
  | @cons _ q _ vs x r =>
   refine nn λno=>?_;obtain⟨i,e1,e⟩:=Option.bind_eq_some_iff.mp e;obtain⟨l,e2,e⟩:=Option.bind_eq_some_iff.mp e;cases e;cases eH e1;obtain⟨t,e3⟩:=x.1.now;obtain⟨qs,c,a⟩:=px r e2;refine no ?_;exact⟨(i,q.2)::qs,⟨e3▸intKind_is ..,rfl,c⟩,.cons ⟨rfl,x.2⟩ a⟩
theorem pw{y:Y}:∀{ps:List (V×V)} {vs:List (Value×Value)} {es:List (List Nat×V)},pA y ps vs->allS ps=some es->∃qs,Carries (PySem.strKind prog w0) vs qs/\All2 (pD jD y) es qs
 | [],_,_,r,e=>by cases r;cases e;exact⟨[],trivial,.nil⟩
 | (k,v)::ps,_,es,r,e=>by
  cases r with
  | @cons _ q _ vs x r =>
   refine nn λno=>?_;obtain⟨i,e1,e⟩:=Option.bind_eq_some_iff.mp e;obtain⟨l,e2,e⟩:=Option.bind_eq_some_iff.mp e;cases e;cases kZ e1;obtain⟨t,e3⟩:=x.1.now;obtain⟨qs,c,a⟩:=pw r e2;refine no ?_;exact⟨(jD i,q.2)::qs,⟨e3▸strKind_is ..,rfl,c⟩,.cons ⟨rfl,x.2⟩ a⟩
section
variable {x z r xs t b o e:X} {p q:Pos} {g:G} {fr:Fr} {L:Hp} {w:Wn g fr L} {us:List V} {vs:List Value}
theorem VsRel.size(r:VsRel w.y us vs)(h:Nat.ble us.length 1000=true):vs.toArray.size<=sizeLine:=by
 rw[List.size_toArray,r.len];exact qC (r9 h) (by decide)
theorem l_(r:VsRel w.y us vs):R VRel w (newTuple vs) (sqW .tup us):=.boolN λh Q E z q =>
 have i:=Idle.push w.y.h {cls:=.type "tuple",data:=.seq vs.toArray}
 lw<|wpAny_newObj_type (z.idle (n:=w.y.s.toks) i (a:=.tup us) (λy' yl=>⟨_,rfl,vs,0,yl.imm _ _ (qK _ rfl) rfl,VRs.of ((r.mono (Yl.idle i)).mono yl)⟩) q) (r.size h)
theorem lst_ok(r:VsRel w.y us vs):R VRel w (newList vs) (sqW .lst us):=.boolN λh Q E z q =>
 lw<|wpAny_newObj_type (z.push (n:=w.y.s.toks) rfl q λm e y' yl=>⟨vs,0,rfl,(r.mono (Yl.plus w.nown e ((Idle.push ..).side λ_ z=>qU z.symm))).mono yl⟩) (r.size h)
theorem its_e{v:V}{n:Nat}{Q:List V->Fr->Hp->Prop}{E:Hd->Fr->Hp->Prop}(q:iT n v fr L Q E):∃us,nU L v us/\us.length=n/\Q us fr L:=by
 have fin:∀us,bg (Nat.beq us.length n) (Ab.ret us) .no fr L Q E->us.length=n/\Q us fr L:=λus q=>by
  cases h:Nat.beq us.length n with
  | true=>rw[h] at q;exact⟨qH h,q⟩
  | false=>rw[h] at q;exact q.elim
 cases v with
 | tup us=>exact⟨us,rfl,fin us q⟩
 | _=>exact q.elim λus q=>⟨us,q.1,fin us q.2⟩
theorem Grown.idle{h h':Heap}(x:Grown h.objs.size h h'):Idle h h':=⟨λb o e=>x.1 b o (q_ (qZ e)) e,x.2⟩
theorem kX{A:Around}{u:Value}{m n:Nat}{P:List Value->Shared->Prop}{E:Value->Shared->Prop}{s:Shared}(h:wpAny M A (unpackItems u m none) P E s)(e:m=n):wpAny M A (unpackItems u n none) P E s:=e▸h
theorem unp_ok{v:V}{u:Value}{n:Nat}(r:VRel w.y v u):R (λy us vs=>VsRel y us vs/\us.length=n) w (unpackItems u n none) (iT n v):=by
 exists w r,zG g,zF fr,zL L,zv v,zV u,zN n;intro Q E z q;refine nn λno=>?_;obtain⟨us,i,e,k⟩:=its_e q;refine no ?_;cases v with
 | tup us' =>
  cases i;refine etup r λa vs n e' rv=>?_;exact kX (jB w.now.stk.hn' ⟨_,e',rfl,n,rfl⟩ λh' g=>z.idle (n:=w.y.s.toks) g.idle (a:=us) (b:=vs) ⟨rv.mono (.idle g.idle),e⟩ k) (Eq.trans List.size_toArray (rv.len.trans e))
 | ref m =>
  refine bf w.now.rel i r λa ob ea e' ⟨vs,n,eo,rv⟩=>?_;exact kX (kr w.now.stk.hn' ⟨_,eo▸e',rfl,n,rfl⟩ λh' g=>z.idle (n:=w.y.s.toks) g.idle (a:=us) (b:=vs) ⟨rv.mono (.idle g.idle),e⟩ k) (Eq.trans List.size_toArray (rv.len.trans e))
 | _=>exact i.elim
theorem lA(xs:X)(env:Env):(assignEach (xl xs) env).length=cQ xs/\(assignEach (xl xs) env).findIdx? (·.1)=none :=
 X.view (C:=λxs=>(assignEach (xl xs) env).length=cQ xs/\(assignEach (xl xs) env).findIdx? (·.1)=none) ⟨rfl,rfl⟩ (λx r ih=>by
  have e:assignEach (xl (.cons x r)) env=(false,assign (xe x) env)::assignEach (xl r) env:=eY x _ env;rw[e];exact⟨qF (·+1) ih.1,by rw[List.findIdx?_cons,ih.2];rfl⟩) (λx i=>by rw[i.lst];exact⟨i.len.symm,rfl⟩) xs
theorem me(hx:aP xs){v:V}{u:Value}(k:kd g.env xs=true)(r:VRel w.y v u):R Ur w (unpack u (assignEach (xl xs) g.env)) ((iT (cQ xs) v).bind (wp g.d xs g.hd).asgs):=by
 unfold unpack;refine((lA xs g.env).1).symm▸?_;refine((lA xs g.env).2).symm▸?_;exact .bind (.hold (unp_ok r)) λrt vs us l rv=>hx.asgs rt k rv.1
end
end
section
section
variable {x z r xs t b o e:X} {p q:Pos} {g:G} {fr fr':Fr} {L L':Hp} {w:Wn g fr L} {us:List V} {vs:List Value}
noncomputable abbrev dct0:Obj:={cls:=.type "dict",data:=.dict #[]}
theorem jm{κ:Type}[DecidableEq κ]{knd:KeyKind prog w0 κ}{h:Heap}{a:Addr}{kvs:List (κ×Value)}(d:h.DictOf knd a kvs):∃ob,h.get? a=some ob/\ke knd ob kvs/\(∃a b,ob.data=.dict a b):=by
 refine nn λno=>?_;obtain⟨ob,es,ep,e,c,d,r⟩:=d;refine no ?_;exact⟨ob,e,λh' a' e'=>⟨ob,es,ep,e',c,d,r⟩,_,_,d⟩
theorem fill{κ κ':Type}[DecidableEq κ']{knd:KeyKind prog w0 κ'}{kf:κ->κ'}{eq:κ->κ->Bool}{mk:List (κ×V)->O}(hm:∀y ob es,OR y ob (mk es)=∃kvs,ke knd ob kvs/\(∃a b,ob.data=.dict a b)/\All2 (pD kf y) es kvs)(he:∀j k,eq j k=decide (kf j=kf k))
  {w':Wn g fr' L'} {D:Addr} {es:List (κ×V)} {qs:List (κ'×Value)} {vs:List (Value×Value)} {P:Value->Shared->Prop} {E:Value->Shared->Prop} {Q:V->Fr->Hp->Prop} {EX:Hd->Fr->Hp->Prop} (z:Fz VRel w Q EX) (hX:z.P=P) (l:Le w w') (hD:w.y.h.objs.size<=D) (no:¬w'.y.own D) (e:w'.y.h.get? D=some dct0) (hv:vs.length<=14)
  (c:Carries knd vs qs) (r:All2 (pD kf w'.y) es qs) (q:alW (mk (mF eq es [])) fr' L' Q EX) :
  wpAny M g.A (forIn vs PUnit.unit λ(x:Value×Value) (_:PUnit)=>(do dictSet D x.1 x.2;pure (ForInStep.yield PUnit.unit):Sem (ForInStep PUnit))) (λ_=>P (.ref D)) E w'.y.s:=by
 subst hX;refine lw<|wpAny_storeAll (knd:=knd) vs qs [] w'.y.s _ c ⟨dct0,#[],0,e,⟨rfl,rfl,rfl⟩,rfl,λ_ he=>by simp at he,.nil,List.nodup_nil⟩ (by rw[List.length_nil,Nat.zero_add,c.length];exact qC hv (by decide)) λh' d sb=>?_;obtain⟨ob,e1,e2,e3⟩:=jm d;have i:Side (·=D) w'.y.h h':=⟨λb o ne e=>(sb.2 b ne).trans e,qU sb.1.symm,λb o z e'=>by cases z;cases e.symm.trans e';rfl⟩;have no:∀b,b=D->¬w'.y.own b:=λ_ z=>z▸no;refine z.take (S:=(·=D)) w' l rfl (λ_ z=>z▸hD) no i e1 q λm em y' yl=>?_;rw[hm];exact⟨_,e2,e3,kD he (r.mono λ_ _ x=>⟨x.1,(x.2.mono (Yl.plus no em i)).mono yl⟩) .nil List.nodup_nil⟩
theorem dk_len:∀(xs:X),(∀n,(ij xs).kk=some n->(er xs).kk.all (·.isSome)=true/\(er xs).kk.length=n/\(er xs).kv.length=n)/\∀n,(ij xs).vk=some n->(er xs).vk.all (·.isSome)=true/\(er xs).vk.length+1=n/\(er xs).vv.length=n :=
 X.view (C:=λxs=>(∀n,(ij xs).kk=some n->(er xs).kk.all (·.isSome)=true/\(er xs).kk.length=n/\(er xs).kv.length=n)/\∀n,(ij xs).vk=some n->(er xs).vk.all (·.isSome)=true/\(er xs).vk.length+1=n/\(er xs).vv.length=n)
  ⟨λn h=>by cases h;exact⟨rfl,rfl,rfl⟩,λn h=>bA h⟩ (λx r ih=>⟨λn h=>ih.2 n h,λn h=>by
   refine nn λno=>?_;obtain⟨m,h1,h2⟩:=Option.map_eq_some_iff.mp h;obtain⟨a,b,e⟩:=ih.1 m h1;refine no ?_;exact⟨a,h2▸qF (·+1) b,h2▸qF (·+1) e⟩⟩) λx i=>⟨λn h=>bA (i.kk.symm.trans h),λn h=>bA (i.vk.symm.trans h)⟩
theorem dct_ok(hx:aP xs)(k:kd g.env xs=true)(h:dOk (ij xs).kk=true):R VRel w (eval (.Dict (er xs).kk (er xs).kv p) g.env) ((wp g.d xs g.hd).vals.bind dctW):=by
 exists w hx k h,zX xs,zP p,zG g,zF fr,zL L;intro Q E z q;obtain⟨n,hn,h1,h2⟩:∃n,(ij xs).kk=some n/\1<=n/\n<=14:=by
  cases e:(ij xs).kk with
  | none=>rw[e] at h;cases h
  | some n=>rw[e] at h;exact⟨n,rfl,r9 (ae h),r9 (a8 h)⟩
 obtain⟨a1,a2,a3⟩:=(dk_len xs).1 n hn;have hl:=(pairTrees_length (er xs).kk (er xs).kv g.env p a1 (a2.trans a3.symm)).trans a2;have hne:pairTrees (er xs).kk (er xs).kv g.env p≠[]:=λz=>by rw[z] at hl;exact absurd h1 (by rw[<-hl];exact Nat.not_succ_le_zero 0)
 rw[arm_eval_Dict,zip_pairTrees _ _ g.env p a1 (a2.trans a3.symm),dictDisplay_pairs _ hne (by rw[hl];exact r6 h2 (by decide))];refine a0 (aj (a0 ?_));unfold subDict;refine a0 (lw<|wpAny_alloc (a0 (ac ?_)));exists (show(pairTrees (er xs).kk (er xs).kv g.env p).length<=15 from hl▸qC h2 (by decide)),();have i:=Idle.push w.y.h dct0;refine a0 (ag (ey (hx.prs p (w.idle i w.y.s.toks) hn k _ _ (.mk (λvs s=>vs.length<=14->wpAny M g.A (forIn vs PUnit.unit λ(x:Value×Value) (_:PUnit)=>(do dictSet w.y.h.objs.size x.1 x.2;pure (ForInStep.yield PUnit.unit):Sem (ForInStep PUnit))) (λ_=>z.P (.ref w.y.h.objs.size)) z.X s) z.X ⟨λw' ps vs l rp q hv=>?_,λw' n e l=>z.ex w' n e ((Le.idle i _).trans l)⟩) q)) (λvs s hk=>ac (a0 (ag (hk.2 (hk.1▸hl▸h2)) (λ_ _ q=>a7 (a7 (a7 q))) λ_ _ x=>x))) λ_ _ x=>x);have l':=(Le.idle (w:=w) i w.y.s.toks).trans l;have no0:¬w.y.own w.y.h.objs.size:=λz=>absurd (w.now.rel.lt _ z) (Nat.lt_irrefl _);have e0:=qK w.y.h (o:=dct0) rfl;have no:¬w'.y.own w.y.h.objs.size:=l.notown e0 no0;have e:w'.y.h.get? w.y.h.objs.size=some dct0:=l.keep _ _ w.now.rel.up.size e0 no0 (λm=>absurd (w.now.old (.inr m)) (Nat.lt_irrefl _)) λz=>absurd (w.now.old (.inl (qJ z))) (Nat.lt_irrefl _);have q:aD (allI ps) (aD (allS ps) .no λes=>alW (.sdict (mF aF es []))) (λes=>alW (.dict (mF ai es []))) _ _ Q E:=q;cases eI:allI ps with
 | some es =>
  rw[eI] at q;obtain⟨qs,c,a⟩:=px rp eI;exact fill (mk:=.dict) (λ_ _ _=>rfl) (λ_ _=>rfl) z rfl l' (qW _) no e hv c a q
 | none =>
  rw[eI] at q;cases eS:allS ps with
  | none=>rw[eS] at q;exact q.elim
  | some es =>
   rw[eS] at q;obtain⟨qs,c,a⟩:=pw rp eS;exact fill (mk:=.sdict) (λ_ _ _=>rfl) c_ z rfl l' (qW _) no e hv c a q
theorem snd_sq{k:Sq}(hx:aP xs):aP (.sq k xs p):=.ofT (λ_ _=>by cases k<;>rfl) (λ{g fr L} w h=>by
 cases k with
 | tup=>exact .stand (.bind (hx.vals p w (ae h)) λrt vs us l r=>l_ r)
 | lst=>exact .stand (.bind (hx.vals p w (ae h)) λrt vs us l r=>lst_ok r)
 | dct=>cases e:Nat.beq (tg xs) 4 with
  | true =>
   cases i7 e;exact λQ E z q=>lw<|wpAny_Dict_empty (z.push (n:=w.y.s.toks) rfl q λm e y' yl=>⟨[],λh a e=>⟨_,_,_,e,⟨rfl,rfl,rfl⟩,rfl,λ_ he=>by simp at he,.nil,List.nodup_nil⟩,⟨_,_,rfl⟩,.nil⟩)
  | false=>exact dct_ok hx (ae h) (by have:=a8 h;rw[e] at this;exact this)) λw _ _ h r=>by
 cases k with
 | tup=>exact .stand (me hx (ae h) r)
 | _=>exact .no
theorem snd_iff(ht:aP t)(hb:aP b)(ho:aP o):aP (.iff t b o p):=.ofS λw k B=>.stand (.bind (ht.tru w (ae k)) λrt u v l r=>.ite r (hb.stms rt (ae (a8 k)) B) (ho.stms rt (a8 (a8 k)) B))
end
end
section
theorem ifs_eq{α:Type}{a b c d e v:Bool}{t:Sem (Option α)}{l:α}(hb:b=false)(hv:v=false):
  (if(a||b)=true then pure none else if c=true then pure none else if d=true then pure none else if e=true then pure none else if v=true then t else pure (some l))=(Pure.pure (if a=true then none else if c=true then none else if d=true then none else if e=true then none else some l):Sem (Option α)):=by
 subst hb hv;cases a with
 | true=>rfl
 | false=>cases c with
  | true=>rfl
  | false=>cases d with
   | true=>rfl
   | false=>cases e<;>rfl
theorem mi{ts vs:List Expr}{k n:Nat}{p q:Pos}{env:Env}(hb:env.scope.kind=.function)(hv:vs.all (constantsAlone 8)=false):swappedStores [.Tuple ts k p] (.Tuple vs n q) env=pure (swB env.kindOf ts vs) :=
 ifs_eq (show(env.blockKind != .function)=false by unfold Env.blockKind;rw[hb];rfl) hv
section
variable {x z r xs t b o e ts ys:X} {p q p1 p2:Pos} {g:G} {fr fr':Fr} {L L':Hp} {w:Wn g fr L} {us:List V} {vs:List Value} {α:Type} {rel:Y->α->Flow->Prop}
theorem asg_r{ts:List Expr}{ve:Expr}{o:Option (List Str)}{m:Ab V}{n:V->Ab α}(hs:swapsWithSole ts ve p.line g.env=pure false)(hw:swappedStores ts ve g.env=pure o)(h:R VRel w (eval ve g.env) m)
  (k:∀{fr' L'} (w':Wn g fr' L') v u,Le w w'->VRel w'.y v u->R rel w' (assignStores g.env u o ((assignEach ts g.env).map (·.2))) (n v)):R rel w (exec (.Assign ts ve p) g.env) (m.bind n):=by
 rw[exec_Assign_arm,hs];refine .stand (.pur (show R rel w (do let v <-eval ve g.env;assignStores g.env v (<-swappedStores ts ve g.env) ((assignEach ts g.env).map (·.2))) _ from .bind h λw' v u l r=>?_));refine(hw).symm▸?_;exact .pur (k w' v u l r)
theorem oy{t:Sem Unit}{m:Ab Unit}(h:R Ur w t m):R flrel w (t>>=λ_=>Pure.pure .next) (m.bind λ_=>.ret .next):=h.bind λ_ _ _ _ _=>.pure rfl
theorem R.rule{t:Sem Flow}{m:Ab α}{s:String}(h:R rel w t m):R rel w (PySem.rule s>>=λ_=>t) m:=λQ E z q=>a0 (ba (h Q E z q))
theorem qu(ht:aP t)(he:aP e)(h2:Nat.beq (tg e) 2=false)(h1:(Nat.beq (tg t) 1&&Nat.beq (tg e) 1)=false)(h7:Nat.beq (tg t) 7=false)(k:(kd g.env t&&kd g.env e)=true)(w:Wn g fr L):
  R flrel w (exec (.Assign [xe t] (xe e) p) g.env) ((wp g.d e g.hd).val.bind λv=>((wp g.d t g.hd).asg v).bind λ_=>.ret .next):=by
 exists ht he h2 h1 h7 k w,zX t,zX e,zP p,zG g,zF fr,zL L;refine asg_r (((form e).sw h2 _ _).2 _) (o:=none) ?_ (he.val w (a8 k)) λw' v u l r=>?_
 .cases ht1:Nat.beq (tg t) 1 with
  | false=>exact(form t).nt (by rw[ht1,h7];rfl) _ _
  | true =>
   rw[ht1] at h1;cases t with
   | sq j xs p=>cases j with
    | tup=>exact(form e).nv h1 _ _ _ _
    | _=>exact eP ht1 rfl
   | _=>exact eP ht1 rfl
 .rw[eY];exact oy (ht.asg w' (ae k) r)
theorem rev_ok{α:Type}{rel:Y->α->Unit->Prop}{n:Ab α}:∀{is:List Nat} {us:List V} {vs:List Value} {w:Wn g fr L} {fs:List (Value->Sem Unit)} {as:List Value},is.length=us.length->(is.all λi=>bO (g.env.kindOf (nm i)))=true->VsRel w.y us vs->(∀{fr' L'} (w':Wn g fr' L'),Le w w'->R rel w' (assignInOrder fs as) n) ->
  R rel w (assignInOrder (((is.map nm).reverse.map λn=>bindName g.env n)++fs) (vs.reverse++as)) (λfr L Q E=>n ⟨putR is us fr.loc,fr.cel⟩ L Q E)
 | [],[],_,w,fs,as,_,_,r,h=>by
  cases r;exact h w (Mv.refl ..)
 | i::is,u::us,_,w,fs,as,hl,hk,r,h=>by
  cases r with
  | @cons _ v _ vs x r =>
   rw[List.map_cons,List.reverse_cons,List.map_append,List.append_assoc,List.reverse_cons,List.append_assoc];have hk:=Bool.and_eq_true_iff.mp ((List.all_cons ..).symm.trans hk);refine rev_ok (n:=λfr L Q E=>n ⟨put i u fr.loc,fr.cel⟩ L Q E) (Nat.succ.inj hl) hk.2 r λw' l=>?_;exact R.bind (m:=mH .loc i u) (n:=λ_=>n) (.hold λQ E z q=>bI (cm hk.1 (x.mono l.toYl) Q E z q)) λro _ _ rA _=>h ro (l.trans rA)
 | [],_::_,_,_,_,_,hl,_,_,_=>nomatch hl
 | _::_,[],_,_,_,_,hl,_,_,_=>nomatch hl
theorem snd_asgs{sw:Bool}(ht:aP ts)(hy:aP ys):aP (.asgs sw ts ys p1 p2 p):=.ofS λ{g fr L} w k B=>by
 have k2:=a8 (a8 k);have e1:=mi (ts:=xl ts) (k:=0) (n:=0) (p:=p1) (q:=p2) w.now.at'.fn (gy (ae (ae k2)));rw[qD (a8 (ae k2))] at e1;cases sw with
 | false =>
  refine asg_r rfl e1 (.stand (.bind (hy.vals p2 w (ae (a8 k))) λrt vs us l r=>l_ r)) λrt v u l r=>?_;exact oy (.stand (me ht (ae k) r))
 | true =>
  have k3:=a8 k2;refine asg_r rfl e1 (.stand (.bind (hy.vals p2 w (ae (a8 k))) λrt vs us l r=>l_ r)) λrt v u l r=>?_;refine .rule (.bind (by rw[qG,qH (ae k3)];exact unp_ok r) λro vs us rA rv=>?_);have h:=rev_ok (n:=.ret ()) (rel:=Ur) (fs:=[]) (as:=[]) ((qH (ae k3)).trans rv.2.symm) (a8 k3) rv.1 λw' _=>.pure trivial;rw[List.append_nil,List.append_nil] at h;exact oy h
theorem s_expr(he:aP e)(h:Nat.beq (tg e) 2=false)(w:Wn g fr L)(k:kd g.env e=true):R flrel w (exec (.Expr (xe e) p) g.env) ((wp g.d e g.hd).val.bind λ_=>.ret .next):=λQ E z q =>
 hJ (he.val w k _ _ (.mk (λ_=>z.P .next) z.X ⟨λw' a b l _ q=>z.ok w' .next .next l rfl q,z.ex⟩) q) (by unfold interactive;rw[w.now.at'.fn];rfl) ((form e).sw h _ _).1
theorem s_ret(he:aP e)(h:opt e=true)(w:Wn g fr L)(k:kd g.env e=true):R flrel w (exec (.Return (er e).o p) g.env) ((wp g.d e g.hd).val.bind λv=>.ret (.ret v)):=by
 rcases kG h with rfl|h
 .exact .stand (.pure ⟨_,rfl,jA⟩)
 .rw[h];exact .stand (.bind (he.val w k) λ_ _ _ _ r=>.pure ⟨_,rfl,r⟩)
end
end
section
theorem jS(f:Array Value->Array Value)(o:Obj)(vs:Array Value)(h:o.data=.fields vs):Obj.mapFields f o={o with data:=.fields (f vs)}:=by
 obtain⟨cl,dc,dt,sl⟩:=o;cases h;rfl
@[elab_as_elim] theorem mG{y:Y}{ob:Obj}{vs:Array Value}{P:O->Prop}{o:O}(r:OR y ob o)(h:ob.data=.fields vs)(f:∀C d ad,ExcOb y C ad false ob->DictAt y d ad->eW C=true->P (.exc C d)):P o:=by
 exists r h f,zY y,zb ob,za vs,zp1 P,zo o;cases o with
 | exc C d=>exact r.elim λad z=>f C d ad z.1 z.2.1 z.2.2
 | list us=>obtain⟨_,_,e,_⟩:=r;subst e;cases h
 | dict es=>obtain⟨_,_,⟨_,_,e⟩,_⟩:=r;rw[h] at e;cases e
 | sdict es=>obtain⟨_,_,⟨_,_,e⟩,_⟩:=r;rw[h] at e;cases e
 | ns fs=>obtain⟨_,_,e,_⟩:=r;subst e;cases h
 | inst C d=>obtain⟨_,e,_⟩:=r;subst e;cases h
 | barr bs=>cases r;cases h
 | cell v=>obtain⟨_,e,_⟩:=r;subst e;cases h
 | fn k cs=>obtain⟨_,_,e,_⟩:=r;rw[h] at e;cases e
 | _=>exact r.elim
section
variable {g:G} {fr:Fr} {L:Hp} {w:Wn g fr L} {P:Unit->Shared->Prop} {X:Value->Shared->Prop} {C T e:Addr} {ad:Option Addr}
theorem Wn.turn(w:Wn g fr L){a:Addr}{o ob':Obj}{h':Heap}{t:Nat}(oa:w.y.own a)(ho:w.y.h.get? a=some o)(hi:bS o=false)(sb:Heap.SameBut a w.y.h h')(e':h'.get? a=some ob')(tb:TbAt w.y a->TbAt (w.y.to h' t) a)
  (ex:∀C ad b,ExcOb w.y C ad b o->Yl w.y (w.y.to h' t)->ExcOb (w.y.to h' t) C ad b ob') (ev:Yl w.y (w.y.to h' t)->Ev (w.y.to h' t) o ob'):∃w':Wn g fr L,w'.y=w.y.to h' t/\Le w w':=by
 have yl:Yl w.y (w.y.to h' t):=⟨λ_ _ e=>e,λb p e i=>(sb.2 b λz=>by
  rw[z,ho] at e;cases e;rw[hi] at i;cases i).trans e,λT x=>(Classical.em (T=a)).elim (λz=>z▸tb (z▸x)) λz=>x.to (λ_ e=>e) λo e _=>(sb.2 T z).trans e⟩
 have m:Mv (dH g.l) none w.y (w.y.to h' t):=⟨yl,rfl,rfl,qU sb.1.symm,λ_ z=>z,λ_ z=>.inl z,λb C ad q _ ⟨ob,e,x⟩=>by
   by_cases z:b=a
   .rw[z,ho] at e;cases e;exact⟨ad,_,z▸e',ex _ _ _ x yl⟩
   .exact⟨ad,ob,(sb.2 b z).trans e,x.mono yl⟩,λb o _ e n _ _=>(sb.2 b λz=>n (z▸oa)).trans e,λb _ _ n o e=>⟨o.slots,(sb.2 b λz=>n (z▸oa)).trans e⟩⟩
 have R:=w.now.rel;exact⟨⟨_,w.now.step m (R.turn yl (λ_ z=>z) (λ_ z=>.inl z) (λb q=>qL (R.lt b q) (qU sb.1.symm)) (qU sb.1.symm) (λb lt=>sb.2 b (q_ (qL lt (R.new a oa))))
  λb p ob e=>by
   by_cases z:b=a
   .rw[z,ho] at e;cases e;exact⟨_,z▸e',ev yl⟩
   .exact⟨p,(sb.2 b z).trans e,λ_ _ _ r=>r⟩)⟩,rfl,m.weak⟩
theorem mf{vs:Array Value}{i:Nat}{x:Value}{h:Heap}{a:Addr}{o:Obj}(e:h.get? a=some o)(d:o.data=.fields vs):(h.update a (Obj.mapFields (·.setIfInBounds i x))).get? a=some {o with data:=.fields (vs.setIfInBounds i x)} :=
 (r5 _ e (Obj.isFreed_of_fields (Obj.data_mapFields d _))).trans (qF some (jS _ o vs d))
theorem Wn.tbPart(w:Wn g fr L)(k:TbAt w.y T)(i:Nat)(x:Value):∃w':Wn g fr L,w'.y=w.y.to (w.y.h.update T (Obj.mapFields (·.setIfInBounds i x))) w.y.s.toks/\Le w w':=by
 refine nn λno=>?_;obtain⟨o,ts,ow,e,c,d,l,f,z⟩:=k;refine no ?_;have no:∀{y:Y} {C ad b},ExcOb y C ad b o->False:=λx=>by cases x;cases c
 exact w.turn ow e (by unfold bS;rw[c,f];rfl) (qY ..) (mf e f) (λ_=>⟨_,_,ow,mf e f,c,d,l,rfl,by rw[Array.size_setIfInBounds];exact z⟩) (λ_ _ _ x _=>(no x).elim) λ_ p y' _ r=>mG r f λ_ _ _ x=>(no x).elim
theorem ir{y y':Y}{C C':Addr}{ad ad':Option Addr}{b b':Bool}{vs:Array Value}(k:TbAt y' T)(x:ExcOb y C ad b {cls:=.ref C',dict:=ad',data:=.fields vs}):ExcOb y' C ad b' {cls:=.ref C',dict:=ad',data:=.fields (vs.setIfInBounds 1 (.ref T))}:=by
 exists k x,zN T,zY y,zY y',zN C,zN C',zO ad,zO ad',zB b,zB b',za vs;cases x with
 | mk vs t z h2 h1 hb ht=>exact⟨_,.ref T,by rw[Array.size_setIfInBounds];exact z,by rw[Array.getElem?_setIfInBounds_ne (by decide)];exact h2,by rw[Array.getElem?_setIfInBounds_self_of_lt (by lia)],λ_=>nofun,.inr ⟨T,rfl,k⟩⟩
theorem Wn.excPart(w:Wn g fr L){b:Bool}(oe:w.y.own e)(x:Exc w.y e C ad b)(k:TbAt w.y T):∃w':Wn g fr L,w'.y=w.y.to (w.y.h.update e (Obj.mapFields (·.setIfInBounds 1 (.ref T)))) w.y.s.toks/\Le w w'/\Exc w'.y e C ad true:=by
 refine nn λno=>?_;obtain⟨ob,e',x⟩:=x;obtain⟨C',ad',vs,rfl⟩:∃C' ad' vs,ob={cls:=.ref C',dict:=ad',data:=.fields vs}:=by cases x;exact⟨_,_,_,rfl⟩
 have nt:¬TbAt w.y e:=λk=>by obtain⟨o,ts,ow,e2,c,r⟩:=k;cases e'.symm.trans e2;cases c
 have up:=mf (i:=1) (x:=.ref T) e' rfl;obtain⟨w',q,l⟩:=w.turn (t:=w.y.s.toks) oe e' rfl (qY ..) up (λk=>(nt k).elim) (λ_ _ _ x yl=>ir (yl.tb T k) x) λyl p y' yl' r=>mG r rfl λC d ad x z h=>⟨ad,ir (yl'.tb T (yl.tb T k)) x,z,h⟩;refine no ?_;exact⟨w',q,l,by rw[q];exact⟨_,up,ir (by have:=l.tb T k;rw[q] at this;exact this) x⟩⟩
end
end
section
theorem get?_nil(a:Addr):({}:Heap).get? a=none:=by
 cases h:({}:Heap).get? a with
 | none=>rfl
 | some o=>exact absurd (qZ h) (Nat.not_lt_zero _)
theorem fL{y:Y}:∀{l:List Env},(∀e∈l,FrOk y e)->y.h.FunFrames {} l
 | [],_=>trivial
 | e::l,k=>by
  cases k e (.head _) with
  | mk L o es n km hL ho hd=>exact⟨km,⟨L,o,hL,get?_nil L,ho,λvs z=>by rw[hd] at z;cases z⟩,fL λe' he=>k e' (.tail _ he)⟩
section
variable {g:G} {fr:Fr} {L:Hp} {w:Wn g fr L} {P:Unit->Shared->Prop} {X:Value->Shared->Prop} {C T e:Addr} {ad:Option Addr}
theorem Stk.inF{A:Around}{l:List Env}{y:Y}{Q:Prop}(k:Stk A l y){b:Addr}(hb:b∈dH l)(f:∀o es n,y.h.get? b=some o->o.data=.dict es n->¬y.own b->Bs.objs.size<=b->Q):Q:=by
 obtain⟨e,he,hL⟩:=List.mem_filterMap.mp hb;cases k.fr e he with
 | mk L o es n km hL' ho hd hn hB=>cases hL.symm.trans hL';exact f o es n ho hd hn hB
theorem Wn.slots(w:Wn g fr L){h':Heap}(x:Heap.SlotsOnly (dH g.l) w.y.h h'):∃w':Wn g fr L,w'.y=w.y.to h' w.y.s.toks/\Le w w':=by
 exists w x,zG g,zF fr,zL L,zH h';have nin:∀b,w.y.own b->b∉dH g.l:=λb ob hb=>w.now.stk.inF hb λ_ _ _ _ _ n _=>n ob;have yl:Yl w.y (w.y.to h' w.y.s.toks):=⟨λ_ _ e=>e,λb o e i=>(x.2.1 b λhb=>w.now.stk.inF hb λo' es n e' hd _ _=>by
  cases e.symm.trans e';unfold bS at i;rw[hd] at i;cases ho:o.cls<;>(rw[ho] at i;cases i)).trans e,λT k=>k.to (λ_ e=>e) λo e _=>(x.2.1 T (nin T k.own)).trans e⟩
 have m:Mv (dH g.l) none w.y (w.y.to h' w.y.s.toks):=⟨yl,rfl,rfl,qU x.1.symm,λ_ z=>z,λ_ z=>.inl z,λb C ad q oa ⟨ob,e,k⟩=>⟨ad,ob,(x.2.1 b (nin b oa)).trans e,k.mono yl⟩,λb o e n f _ _=>(x.2.1 b ‹_›).trans n,λb f _ n o e=>x.2.2 b o e⟩;have R:=w.now.rel;exact⟨⟨_,w.now.step m (R.turn yl (λ_ z=>z) (λ_ z=>.inl z) (λb q=>qL (R.lt b q) (qU x.1.symm)) (qU x.1.symm) (λb lt=>x.2.1 b λhb=>w.now.stk.inF hb λ_ _ _ _ _ _ hB=>absurd lt (Nat.not_lt.mpr hB))
  λb o ob e=>⟨o,(x.2.1 b (nin b ob)).trans e,λ_ _ _ r=>r⟩)⟩,rfl,m.weak⟩
theorem Wn.pushOwn(w:Wn g fr L)(o:Obj):∃w':Wn g fr L,w'.y=⟨w.y.θ,λa=>w.y.own a\/a=w.y.h.objs.size,{w.y.s with heap:=w.y.h.push o}⟩/\Le w w':=by
 have i:=Idle.push w.y.h o;have R:=w.now.rel;have yl:Yl w.y ⟨w.y.θ,λa=>w.y.own a\/a=w.y.h.objs.size,{w.y.s with heap:=w.y.h.push o}⟩:=⟨λ_ _ e=>e,λb o e _=>i.keep b o e,λT k=>k.to (λ_=>.inl) λo e _=>i.keep T o e⟩;have m:Mv (dH g.l) none w.y ⟨w.y.θ,λa=>w.y.own a\/a=w.y.h.objs.size,{w.y.s with heap:=w.y.h.push o}⟩ :=
  ⟨yl,rfl,rfl,i.size,λ_=>.inl,λ_ x=>x.imp id λe=>qU e.symm,λb C ad q _ ⟨ob,e,k⟩=>⟨ad,ob,i.keep b ob e,k.mono yl⟩,λ_ _ _ e _ _ _=>i.keep _ _ e,λ_ _ _ _ o' e=>⟨o'.slots,i.keep _ _ e⟩⟩
 exact⟨⟨_,w.now.step m (R.turn yl m.mono m.fresh (λa q=>q.elim (λq=>qL (R.lt a q) i.size) λe=>by rw[e,show({w.y.s with heap:=w.y.h.push o}:Shared).heap.objs.size=w.y.h.objs.size+1 from Heap.size_push ..];exact Nat.lt_succ_self _) i.size
  (λb lt=>Heap.get?_push_ne _ _ _ (q_ (qL lt R.up.size))) λb o' _ e=>⟨o',i.keep _ _ e,λ_ _ _ r=>r⟩)⟩,rfl,m.weak⟩
abbrev Noted(w:Wn g fr L)(e C:Addr)(P:Unit->Shared->Prop):Prop:=∀(w':Wn g fr L) ad,Le w w'->Exc w'.y e C ad true->P () w'.y.s
theorem Le.exc{w w':Wn g fr L}(l:Le w w'){b:Bool}(oe:w.y.own e)(x:Exc w.y e C ad b):w'.y.own e/\∃ad',Exc w'.y e C ad' b:=⟨l.mono e oe,l.exk _ _ _ _ oe x⟩
theorem Exc.field{y:Y}{b:Bool}{P:Prop}(x:Exc y e C ad b)(f:∀vs t,y.h.get? e=some {cls:=.ref C,dict:=ad,data:=.fields vs}->vs[1]?=some t->(b=true->t≠.none)->(t=.none\/∃T,t=.ref T/\TbAt y T)->P):P:=by
 obtain⟨ob,e,x⟩:=x;cases x with
 | mk vs t z h2 h1 hb ht=>exact f vs t e h1 hb ht
theorem gz(w:Wn g fr L)(hb:Bdy g)(oe:w.y.own e)(x:Exc w.y e C ad false){head:Value}{hadNext:Bool}(h:Noted w e C P):
  wpAny M g.A (do let a <-frameOf g.env;let pl <-entryPlaceOf g.env.locals hadNext;let b <-EntryCells.newEntry head a .none (rawInt g.env.locals) .none pl;setField (.ref e) 1 b) P X w.y.s:=by
 exists w hb oe x h,zG g,zF fr,zL L,aN P,aN X,zN C,zN e,zO ad,zV head,zB hadNext;refine nn λno=>?_;obtain⟨r,hr⟩:=hb.top;refine no ?_;refine a0 (lw<|wpAny_frameOf_fun (hr▸w.now.at'.frames) (fL (y:=w.y) (hr▸w.now.stk.fr)) hb.frm λrC rR=>?_);refine nn λno=>?_;obtain⟨rt,rP,l₁⟩:=w.slots (show Heap.SlotsOnly (dH g.l) w.y.h rC by rw[hr];exact rR);refine no ?_;refine a0 (lw<|wpAny_entryPlaceOf λpl hpl=>?_);refine a0 (lw<|wpAny_newObj_type ?_ (hpl.sizeOk5 _ _ _ _ _));refine nn λno=>?_;obtain⟨vs,hvs,hsz⟩:∃vs,([head,.ref g.env.locals,.none,rawInt g.env.locals,.none]++(if pl.isEmpty then List.replicate 6 Value.none else pl)).toArray=vs/\4<=vs.size:=⟨_,rfl,by rw[List.size_toArray,List.length_append];exact qC (show 4<=5 by decide) (qI 5 _)⟩;refine no ?_;refine(hvs).symm▸?_;refine nn λno=>?_;obtain⟨ro,rN,rA⟩:=rt.pushOwn {cls:=.type "traceback",data:=.fields vs};refine no ?_;have hh:rt.y.h=rC:=by rw[rP]
 have hs:({w.y.s with heap:=rC.push {cls:=.type "traceback",data:=.fields vs}}:Shared)=ro.y.s:=by rw[rN,rP]
 have k:TbAt ro.y rC.objs.size:=by rw[rN,hh];exact⟨_,vs,.inr rfl,qK _ rfl,rfl,rfl,rfl,rfl,hsz⟩
 refine(hs).symm▸?_;refine nn λno=>?_;obtain⟨sO,s7,rT⟩:=Le.exc (l₁.trans rA) oe x;obtain⟨rF,sf,rG,si⟩:=ro.excPart sO rT k;refine no ?_;refine rT.field λus t eu h1 _ _=>lw<|wpAny_setField eu rfl (Array.getElem?_eq_some_iff.mp h1).1 ?_;have:=h rF s7 ((l₁.trans rA).trans rG) si;rw[sf] at this;exact this
theorem br(w:Wn g fr L)(hb:Bdy g)(oe:w.y.own e)(x:Exc w.y e C ad false)(h:Noted w e C P):wpAny M g.A (noteFrame (.ref e) g.env) P X w.y.s:=by
 exists w hb oe x h,zG g,zF fr,zL L,aN P,aN X,zN C,zN e,zO ad;unfold noteFrame;refine(hb.frm).symm▸?_;refine x.field λvs t e1 h1 _ ht=>a0 (lw<|wpAny_field e1 rfl h1 ?_);rcases ht with rfl|⟨T,rfl,k⟩
 .exact gz w hb oe x h
 .obtain⟨oT,ts,ow,eT,c1,c2,c3,c4,c5⟩:=id k;have h3:ts[3]?=some ts[3]:=Array.getElem?_eq_getElem (by lia);refine a0 (lw<|wpAny_field eT c4 h3 ?_);by_cases q:(ts[3]==rawInt g.env.locals)=true
  .exists q,();exact a7 (h w ad (Mv.refl ..) ⟨_,e1,by obtain⟨ob,e2,x⟩:=x;cases e1.symm.trans e2;cases x with|mk _ t z h2 h1' hb ht=>cases h1.symm.trans h1';exact⟨_,_,z,h2,h1,λ_=>nofun,ht⟩⟩)
  .exists q;obtain⟨w',e',l⟩:=w.tbPart k 3 .none;refine a0 (lw<|wpAny_setField eT c4 (by lia) ?_);obtain⟨sO,s7,rT⟩:=l.exc oe x;have:=gz (X:=X) (head:=.ref T) (hadNext:=true) w' hb sO rT λw'' ad l' x=>h w'' ad (l.trans l') x;rw[e'] at this;exact this
theorem aL(w:Wn g fr L){b:Bool}(oe:w.y.own e)(x:Exc w.y e C ad b){f:Option Addr}(h:∀(w':Wn g fr L) ad,Le w w'->w'.y.θ=w.y.θ->Exc w'.y e C ad b->P () w'.y.s):wpAny M g.A (setFlight (.ref e) f) P X w.y.s:=by
 refine x.field λvs t e1 h1 _ ht=>a0 (lw<|wpAny_field e1 rfl h1 ?_);rcases ht with rfl|⟨T,rfl,k⟩
 .exact a7 (h w ad (Mv.refl ..) rfl x)
 .refine nn λno=>?_;obtain⟨oT,ts,ow,eT,c1,c2,c3,c4,c5⟩:=id k;obtain⟨w',e',l⟩:=w.tbPart k 3 (f.elim .none λf=>rawInt f);obtain⟨sO,s7,rT⟩:=l.exc oe x;refine no ?_;have:=h w' s7 l (by rw[e']) rT;rw[e'] at this;exact lw<|wpAny_setField eT c4 (by lia) this
theorem iE(w:Wn g fr L)(oe:w.y.own e)(x:Exc w.y e C ad true)(h:∀(w':Wn g fr L) ad,Le w w'->w'.y.θ=w.y.θ->Exc w'.y e C ad true->X (.ref e) w'.y.s):aO M g.A g.env X (.ref e) w.y.s:=by
 refine x.field λvs t e1 h1 ht _=>a0 (lw<|wpAny_field e1 rfl h1 ?_);exists (by simpa using ht rfl);exact aL w oe x h
end
end
section
section
variable {A:Around} {E:Value->Shared->Prop} {s:Shared}
theorem eC{α β:Type}[BEq α][LawfulBEq α]:∀(ns:List α) (vs:List β),ns.Nodup->ns.length=vs.length->ns.filterMap (λn=>((ns.zip vs).lookup n).map (n,·))=ns.zip vs
 | [],vs,_,_=>by simp
 | n::ns,v::vs,nd,h=>by
  have nd':=List.nodup_cons.mp nd;rw[List.zip_cons_cons,List.filterMap_cons];have e:(((n,v)::ns.zip vs).lookup n).map (n,·)=some (n,v):=by simp[List.lookup]
  rw[e];dsimp only
  congr 1
  refine Eq.trans ?_ (eC ns vs nd'.2 (by simpa using h));have go:∀(l:List α),n∉l->l.filterMap (λm=>(((n,v)::ns.zip vs).lookup m).map (m,·))=l.filterMap (λm=>((ns.zip vs).lookup m).map (m,·)):=by
   intro l
   induction l with
   | nil=>intro _;rfl
   | cons m l ih =>
    intro hm;have hne:(m==n)=false:=by
     simp only[beq_eq_false_iff_ne];rintro rfl;exact hm (.head _)
    have e:((n,v)::ns.zip vs).lookup m=(ns.zip vs).lookup m:=by simp only[List.lookup,hne]
    rw[List.filterMap_cons,List.filterMap_cons,ih λz=>hm (.tail _ z),e]
  exact go ns nd'.1
 | _::_,[],_,h=>by simp at h
set_option tactic.hygienic true in
theorem h6{α β:Type}[BEq α][LawfulBEq α]:∀(ns:List α) (vs:List β),ns.length=vs.length->∀n∈ns,((ns.zip vs).lookup n).isSome=true
 | [],vs,_,n,h=>by cases h
 | m::ns,v::vs,hl,n,h=>by
  rw[List.zip_cons_cons,List.lookup];split
  .rfl
  .rename_i q;have q:¬(n=m):=by simpa using q
   rcases List.mem_cons.mp h with h|h
   .exact absurd h q
   .exact h6 ns vs (by simpa using hl) n h
 | _::_,[],h,_,_=>by simp at h
theorem mU{α β:Type}(l:List α)(b:β)(f:α->β->Sem (ForInStep β))(h:∀x∈l,f x b=pure (.yield b)):forIn l b f=(pure b:Sem β):=by
 induction l with
 | nil=>rfl
 | cons x l ih =>
  rw[List.forIn_cons,h x (.head _)];show(forIn l b f)=_;exact ih λy hy=>h y (.tail _ hy)
theorem wif{α:Type}{b:Bool}{t e:Sem α}{Q:α->Shared->Prop}(h:b=false)(k:wpAny M A e Q E s):wpAny M A (if b=true then t else e) Q E s:=by subst h;exact k
theorem dL{fd:FuncData}{vals:List Value}{ns:List Str}(hp:fd.params.posonlyargs=[])(ha:fd.params.args.map (·.arg)=ns)(hv:fd.params.vararg=none)(hk:fd.params.kwonlyargs=[])(hw:fd.params.kwarg=none)
  (hn:ns.Nodup) (hl:ns.length=vals.length) {Q:List (Str×Value)->Shared->Prop} (hd:∀Q':Option (Array Value)->Shared->Prop,(∀o,Q' o s)->wpAny M A (seqItems? fd.defaults) Q' E s) (hQ:Q (ns.zip vals) s) :
  wpAny M A (bindArgs fd ⟨vals,[]⟩) Q E s:=by
 exists hp ha hv hk hw hn hl hd hQ,zA A,aN E,zS s,zf fd,zL vals,zL ns,aN Q;unfold bindArgs;generalize fd.params=P at hp ha hv hk hw;obtain⟨po,ar,va,ko,kd,kw,df⟩:=P;dsimp only at hp ha hv hk hw;subst hp hv hk hw;have gs:∀n∈ns,((ns.zip vals).lookup n).isNone=false:=λn hm=>by rw[<-Option.not_isSome,h6 ns vals hl n hm];rfl
 have ef:∀k,((ns.take k).filter λn=>((ns.zip vals).lookup n).isNone)=[]:=λk=>List.filter_eq_nil_iff.mpr λn hm=>by rw[gs n (List.mem_of_mem_take hm)];exact Bool.false_ne_true
 have e3:∀(k:Nat) (l:List Value),forIn (m:=Sem) ((ns.drop k).zip l) (ns.zip vals) (λx r=>if((r.lookup x.1).isNone)=true then pure (ForInStep.yield (r++[(x.1,x.2)])) else pure (ForInStep.yield r))=pure (ns.zip vals):=λk l =>
  mU _ _ _ λx hx=>if_neg (by rw[gs x.1 (List.mem_of_mem_drop (List.of_mem_zip hx).1)];exact Bool.false_ne_true)
 have ez:=eC ns vals hn hl;subst ha;refine a0 (a7 (a0 (hd _ λo=>?_)));refine wif (by show(decide (vals.length > (ar.map (·.arg)).length)&&true)=false;rw[hl,decide_eq_false (Nat.lt_irrefl _)];rfl) ?_;refine wif (qF (λl=>!List.isEmpty l) (ef _)) ?_;refine a0 (bv (e3 _ _) ?_);refine a0 (a7 ?_);refine wif rfl (a7 ?_);show Q ((List.map Arg.arg ar++[]).filterMap λn=>((List.zip (List.map Arg.arg ar) vals).lookup n).map (n,·)) s;rw[List.append_nil];exact(qF (λl=>Q l s) ez).mpr hQ
end
variable {y y':Y}
noncomputable def gn(h:Heap)(v:Value):Prop:=v=.none\/∃T o xs n,v=.ref T/\h.get? T=some o/\o.data=.seq xs n
theorem lB{A:Around}{X:Value->Shared->Prop}{s:Shared}{v:Value}(x:gn s.heap v):∀Q':Option (Array Value)->Shared->Prop,(∀o,Q' o s)->wpAny M A (seqItems? v) Q' X s:=λQ' h=>by
 rcases x with rfl|⟨T,o,xs,n,rfl,ho,hd⟩
 .exact a7 (h _)
 .exact lw<|wpAny_seqItems ho hd (h _)
noncomputable def gE:List Nat->List V->Option (List (Nat×V))
 | [],[]=>some []
 | p::ps,v::vs=>(gE ps vs).bind λr=>some ((p,v)::r)
 | _,_=>none
theorem jh{l:List Nat}(h:l.Nodup):(l.map nm).Nodup:=by
 induction l with
 | nil=>exact .nil
 | cons i l ih =>
  have h':=List.nodup_cons.mp h;exact List.nodup_cons.mpr ⟨λz=>(List.mem_map.mp z).elim λj q=>h'.1 (i6 _ _ q.2▸q.1),ih h'.2⟩
theorem f6{i:Nat}{u:V}:∀{ps:List Nat} {us:List V} {vs:List Value} {r:List (Nat×V)},gE ps us=some r->VsRel y us vs->ps.length=us.length/\(look i r=some u->∃x,((ps.map nm).zip vs).lookup (nm i)=some x/\VRel y u x)
 | [],[],_,_,e,_=>by cases e;exact⟨rfl,λh=>bA h⟩
 | [],_::_,_,_,e,_=>bA e
 | _::_,[],_,_,e,_=>bA e
 | p::ps,a::us,_,_,e,rv=>by
  cases rv with
  | @cons _ v _ vs x rv =>
   obtain⟨r',q,e⟩:=Option.bind_eq_some_iff.mp e;cases e;obtain⟨h1,h2⟩:=f6 (i:=i) (u:=u) q rv;refine⟨qF (·+1) h1,λe=>?_⟩;have e:(match Nat.beq p i with|true=>some a|false=>look i r')=some u:=e;rw[List.map_cons,List.zip_cons_cons,List.lookup];cases z:Nat.beq p i with
   | true =>
    rw[z] at e;cases e;rw[qH z,beq_self_eq_true];exact⟨v,rfl,x⟩
   | false =>
    rw[z] at e;rw[beq_eq_false_iff_ne.mpr (Ne.symm (kI z))];exact h2 e
theorem eG{β:Type}:∀{l:List (Str×β)} {k:Str} {v:β},(l.map (·.1)).Nodup->(k,v)∈l->l.lookup k=some v
 | (j,u)::l,k,v,nd,h=>by
  rw[List.map_cons,List.nodup_cons] at nd;rcases List.mem_cons.mp h with g|g
  .injection g with h1 h2;subst h1 h2;simp[List.lookup]
  .have:(k==j)=false:=by
    simp only[beq_eq_false_iff_ne];rintro rfl;exact nd.1 (List.mem_map.mpr ⟨(k,v),g,rfl⟩)
   rw[List.lookup,this];exact eG nd.2 g
set_option tactic.hygienic true in
theorem cz{β:Type}:∀{l:List (Str×β)} {k:Str} {v:β},l.lookup k=some v->(k,v)∈l
 | (j,u)::l,k,v,h=>by
  rw[List.lookup] at h;split at h
  .rename_i q;cases h;rw[eq_of_beq q];exact .head _
  .exact .tail _ (cz h)
theorem i9{β:Type}{l:List (Str×β)}(nd:(l.map (·.1)).Nodup){k:Str}{v:β}(h:l.lookup k=some v):l.reverse.lookup k=some v:=by
 refine eG ?_ (List.mem_reverse.mpr (cz h));rw[List.map_reverse];exact List.pairwise_reverse.mpr (nd.imp λh=>Ne.symm h)
theorem gp{α β:Type}:∀{ns:List α} {vs:List β},ns.length=vs.length->(ns.zip vs).map (·.1)=ns
 | [],_,_=>by simp
 | n::ns,v::vs,h=>by rw[List.zip_cons_cons,List.map_cons,gp (by simpa using h)]
 | _::_,[],h=>by simp at h
end
section
structure FnAt (f:Fn) (fd:FuncData):Prop where
 pos:fd.params.posonlyargs=[]
 args:fd.params.args.map (·.arg)=f.params.map nm
 var:fd.params.vararg=none
 kwo:fd.params.kwonlyargs=[]
 kww:fd.params.kwarg=none
 nodup:f.params.Nodup
 kind:fd.scope.kind=.function
 co:fd.scope.isCoroutine=false
 gen:fd.scope.isGenerator=false
 glb:fd.globals=mainGlobals
 blt:fd.builtins=builtinsNs
 nocell:∀x∈fd.scope.names,x.2≠.cell
 loc:∀i∈f.params,fd.scope.names.lookup (nm i)=some .local
 kd:knd (cL fd.code) (λs=>fd.scope.names.lookup s) (λi=>fd.scope.names.lookup (nm i)) f.body=true
inductive FnTop (a:Nat) (f:Fn):Prop
 | mk (o:Obj) (fd:FuncData) (e:Bs.get? a=some o) (d:o.data=.func fd) (b:fd.body=.stmts (xss f.body)) (F:FnAt f fd) (cd:Bs.CodeRec fd.code fd.qualname) (df:gn Bs fd.defaults)
noncomputable def noCell:NameKind->Bool
 | .cell=>false
 | _=>true
noncomputable def isFn:ScopeKind->Bool
 | .function=>true
 | _=>false
noncomputable def chkP(f:Fn)(p:Arguments)(sc:Scope):Bool:=p.posonlyargs.isEmpty&&(decide (p.args.map (·.arg)=f.params.map nm)&&(p.vararg.isNone&&(p.kwonlyargs.isEmpty&&(p.kwarg.isNone&&(decide f.params.Nodup&&(isFn sc.kind&&(!sc.isCoroutine&&(!sc.isGenerator &&
 (sc.names.all (λx=>noCell x.2)&&f.params.all (λi=>bO (sc.names.lookup (nm i))))))))))))
noncomputable def pd(b:Bool)(f:Fn)(sc:Scope):Bool:=knd b (λs=>sc.names.lookup s) (λi=>sc.names.lookup (nm i)) f.body
theorem isFn_e{k:ScopeKind}(h:isFn k=true):k=.function:=by cases k<;>first|rfl|cases h
theorem FnAt.of{f:Fn}{fd:FuncData}(e3:fd.globals=mainGlobals)(e4:fd.builtins=builtinsNs)(h:chkP f fd.params fd.scope=true)(hk:pd (cL fd.code) f fd.scope=true):FnAt f fd where
 pos:=List.isEmpty_iff.mp (ae h)
 args:=qD (ae (a8 h))
 var:=Option.isNone_iff_eq_none.mp (ae (a8 (a8 h)))
 kwo:=List.isEmpty_iff.mp (ae (a8 (a8 (a8 h))))
 kww:=Option.isNone_iff_eq_none.mp (ae (a8 (a8 (a8 (a8 h)))))
 nodup:=qD (ae (a8 (a8 (a8 (a8 (a8 h))))))
 kind:=isFn_e (ae (a8 (a8 (a8 (a8 (a8 (a8 h)))))))
 co:=gy (ae (a8 (a8 (a8 (a8 (a8 (a8 (a8 h))))))))
 gen:=gy (ae (a8 (a8 (a8 (a8 (a8 (a8 (a8 (a8 h)))))))))
 glb:=e3
 blt:=e4
 nocell:=λx hx z=>by
  have y:=List.all_eq_true.mp (ae (a8 (a8 (a8 (a8 (a8 (a8 (a8 (a8 (a8 h)))))))))) x hx;have y:=(z)▸y;cases y
 loc:=λi hi=>qD (List.all_eq_true.mp (a8 (a8 (a8 (a8 (a8 (a8 (a8 (a8 (a8 (a8 h)))))))))) i hi)
 kd:=hk
noncomputable def fuD:Data->Option FuncData|.func fd=>some fd|_=>none
theorem fuD_ok{d:Data}{p:FuncData}(h:fuD d=some p):d=.func p:=by
 cases d with
 | func es=>exact qJ h▸rfl
 | _=>exact nomatch h
noncomputable def flD:Data->Option (Array Value)|.fields vs=>some vs|_=>none
theorem flD_ok{d:Data}{p:Array Value}(h:flD d=some p):d=.fields p:=by
 cases d with
 | fields es=>exact qJ h▸rfl
 | _=>exact nomatch h
noncomputable def fdO(a:Nat):Option FuncData:=(obB a).bind λo=>fuD o.data
noncomputable def fdOf(a:Nat):FuncData:=(fdO a).getD default
noncomputable def chkD(v:Value):Bool:=decide (v=.none)||(decide (v=.ref (pT v))&&(obB (pT v)).any λo=>(sqD o.data).isSome)
noncomputable def chkR(fd:FuncData):Bool:=decide (fd.code=.ref (pT fd.code))&&(obB (pT fd.code)).any λo=>(flD o.data).any λvs=>decide (vs[1]?=some (.str fd.qualname (tok (vs.getD 1 .none))))
noncomputable def chkF(a:Nat)(f:Fn)(fd:FuncData):Bool:=Nat.beq fd.globals mainGlobals&&(Nat.beq fd.builtins builtinsNs&&(chkP f fd.params fd.scope&&(pd (cL fd.code) f fd.scope&&(chkR fd&&chkD fd.defaults))))
noncomputable def chkTop(a:Nat)(f:Fn):Bool:=(fdO a).any (chkF a f)
theorem chkR_ok{fd:FuncData}(h:chkR fd=true):Bs.CodeRec fd.code fd.qualname:=by
 obtain⟨o,g,h2⟩:=(Option.any_eq_true ..).mp (a8 h);obtain⟨vs,e,h3⟩:=(Option.any_eq_true ..).mp h2;exact⟨_,o,vs,_,qD (ae h),i4 g,flD_ok e,qD h3⟩
theorem chkD_ok{v:Value}(h:chkD v=true):gn Bs v:=(Bool.or_eq_true_iff.mp h).imp qD λh=>by
 obtain⟨o,g,h2⟩:=(Option.any_eq_true ..).mp (a8 h);obtain⟨p,e⟩:=Option.isSome_iff_exists.mp h2;exact⟨_,o,p.1,p.2,qD (ae h),i4 g,sqD_ok e⟩
theorem ql{a:Nat}{f:Fn}(h:chkTop a f=true)(b:(fdOf a).body=.stmts (xss f.body)):FnTop a f:=by
 obtain⟨fd,e,h⟩:=(Option.any_eq_true ..).mp h;obtain⟨o,g,e2⟩:=Option.bind_eq_some_iff.mp e;unfold fdOf at b;rw[e] at b;exact⟨o,fd,i4 g,fuD_ok e2,b,.of (qH (ae h)) (qH (ae (a8 h))) (ae (a8 (a8 h))) (ae (a8 (a8 (a8 h)))),chkR_ok (ae (a8 (a8 (a8 (a8 h))))),chkD_ok (a8 (a8 (a8 (a8 (a8 h)))))⟩
theorem top_all:T.fns.all (λp=>chkTop p.1 p.2)=true:=by rfl'
theorem body_all:AllE (λa f=>(fdOf a).body=.stmts (xss f.body)) T.fns:=⟨rfl,rfl,rfl,rfl,rfl,rfl,rfl,rfl,rfl,rfl,rfl,rfl,rfl,rfl,rfl,rfl,rfl,rfl,rfl,rfl,rfl,rfl,rfl,rfl,rfl,rfl,rfl,rfl,rfl,rfl,rfl,rfl,rfl,rfl,rfl,rfl,rfl,rfl,rfl,rfl,rfl,rfl,rfl,rfl,rfl,rfl,rfl,rfl,rfl,rfl,rfl,rfl,rfl,rfl,rfl,rfl,rfl,rfl,rfl,rfl,rfl,rfl,rfl,rfl,rfl,rfl,rfl,rfl,rfl,rfl,rfl,rfl,rfl,rfl,rfl,rfl,rfl,rfl,rfl,rfl,rfl,trivial⟩
theorem fn_top(a:Nat)(f:Fn)(e:look a T.fns=some f):FnTop a f:=ql (List.all_eq_true.mp top_all (a,f) (dU e)) (body_all.at e)
theorem lim2:nsFind (m_ 2) "sys.recursionlimit"=none:=by rfl'
theorem d2:isD 2=true:=by rfl'
theorem no_limit:Bs.NoLimit:=⟨_,oA d2,lim2⟩
theorem nolim{h:Heap}(U:Up h):h.NoLimit:=let⟨mc,a,b⟩:=no_limit;⟨mc,U.ns a,b⟩
noncomputable abbrev lK(fd:FuncData)(L a:Addr):Env:=newEnv fd.scope L fd.globals fd.closure (fd.qualname++".<locals>.") (some a) fd.code none fd.builtins
noncomputable abbrev gC(d:Nat)(g:G)(fd:FuncData)(L a:Addr):G:=⟨d,g.A.deeper (lK fd L a),lK fd L a::g.l,lK fd L a,g.hd⟩
section
variable {g:G} {fr fr':Fr} {L L':Hp} {d:Nat} {hd:Bool} {f:Fn} {fd:FuncData} {a:Addr} {us:List V} {vs:List Value} {ps:List (Nat×V)} {up:List (Nat×Hd)} {h':Heap} {n:Nat} {Q:V->Fr->Hp->Prop} {E:Hd->Fr->Hp->Prop}
theorem At.enter(x:At g)(hd:g.d=d+1)(F:FnAt f fd){b:Addr}:At (gC d g fd b a) where
 frames:=by show(g.A.frames.map _)=_;rw[x.frames];rfl
 mine:=⟨_,_,rfl,rfl⟩
 hd:=x.hd
 depth:=qC (by show g.A.depth+1+(8*d+60)<=g.A.depth+(8*g.d+60);rw[hd];lia) x.depth
 units:=qC (by show g.A.units+3+(60*d+300)<=g.A.units+(60*g.d+300);rw[hd];lia) x.units
 fn:=F.kind
 glb:=F.glb
 blt:=F.blt
theorem Wn.enter(w:Wn g fr L)(hd:g.d=d+1)(F:FnAt f fd)(r:VsRel w.y us vs)(hb:gE f.params us=some ps)(hup:∀(i:Nat) (k:Hd),look i up=some k->cB (fd.scope.names.lookup (nm i))=true->∃b:Addr,fd.closure.lookup (nm i)=some b/\w.y.θ k=some b)
  (hns:h'.Ns w.y.h.objs.size (λx=>((f.params.map nm).zip vs).reverse.lookup x)) (i:Idle w.y.h h'):Now (gC d g fd w.y.h.objs.size a) ⟨ps,up⟩ L (w.y.to h' n):=by
 have no:¬w.y.own w.y.h.objs.size:=λz=>Nat.lt_irrefl _ (w.now.rel.lt _ z);have N:=w.now.idle i n;have nd:(((f.params.map nm).zip vs).map (·.1)).Nodup:=by
  rw[gp (by rw[qG,(f6 (i:=0) (u:=.non) hb r).1,r.len])];exact jh F.nodup
 refine⟨w.now.at'.enter hd F,N.rel,⟨⟨_,hns,λj v e=>?_⟩,hup,no,w.now.rel.up.size⟩,⟨λe he=>?_,N.stk.hn⟩⟩
 .exact((f6 hb r).2 e).elim λx q=>⟨x,i9 nd q.1,q.2.mono (Yl.idle i)⟩
 .rcases List.mem_cons.mp he with rfl|he
  .obtain⟨o,es,ep,ho,hd,_⟩:=hns;exact⟨_,o,es,ep,by show fd.scope.kind≠_;rw[F.kind];nofun,rfl,ho,hd,no,w.now.rel.up.size⟩
  .exact N.stk.fr e he
theorem mv_leave{y:Y}{w:Wn g fr L}(i:Idle w.y.h h')(m:Mv (dH (gC d g fd w.y.h.objs.size a).l) (some w.y.h.objs.size) (w.y.to h' n) y):Mv (dH g.l) none w.y y :=
 have ne:∀{b o},w.y.h.get? b=some o->b≠w.y.h.objs.size:=λe z=>absurd (qZ e) (Nat.not_lt.mpr (qU z.symm));have M:=Mv.idle (F:=dH g.l) (x:=none) i n
 ⟨M.toYl.trans m.toYl,m.os,m.gens,qC i.size m.size,m.mono,λb q=>(m.fresh b q).imp id (qC i.size),λb C ad q o x=>(M.exk b C ad q o x).elim λad' x=>m.exk b C ad' q o x,λb o z e n f _=>m.keep b o z (i.keep b o e) n (λq=>(List.mem_cons.mp q).elim (ne e) f) λq=>ne e (qJ q),λb f _ n o e=>m.slots b (.tail _ f) (λq=>ne e (qJ q)) n o (i.keep b o e)⟩
noncomputable def Rt(Q:V->Fr->Hp->Prop)(fr:Fr):Fl->Fr->Hp->Prop
 | .next,_,L=>Q .non fr L
 | .ret v,_,L=>Q v fr L
theorem lL{w:Wn g fr L}(i:Idle w.y.h h'){w':Wn (gC d g fd w.y.h.objs.size a) ⟨ps,up⟩ L}(e:w'.y=w.y.to h' n)(z:Fz VRel w Q E){P':Flow->Shared->Prop}(hr:∀v s',z.P v s'->P' (.ret v) s')(hn:∀s',z.P .none s'->P' .next s'):
  FzP flrel w' (Rt Q fr) (λn _ L=>E n fr L) P' λe s'=>wpAny M (g.A.deeper (lK fd w.y.h.objs.size a)) (leaving (lK fd w.y.h.objs.size a) e) (λ_ s''=>z.X e s'') z.X s' :=
 have back:∀{fr' L'} (ro:Wn (gC d g fd w.y.h.objs.size a) fr' L'),Le w' ro->Mv (dH g.l) none w.y ro.y:=λro l=>mv_leave (n:=n) i (by unfold Le at l;rw[e] at l;exact l)
 ⟨λro f fl l r q=>by
  have m:=back ro l;have N:=w.now.step m ro.now.rel;cases f with
  | next=>cases r;exact hn _ (z.ok ⟨_,N⟩ .non .none m.weak jA q)
  | ret v=>exact r.elim λx r=>by cases r.1;exact hr _ _ (z.ok ⟨_,N⟩ v x m.weak r.2 q),λro n x l hx q=>by
  refine nn λno=>?_;obtain⟨en,C,ad,hx⟩:=hx;refine no ?_;refine a0 (br ro ⟨⟨g.l,rfl⟩,rfl⟩ (ro.now.rel.sub _ _ en) hx λrF ti rG si=>?_);refine aL rF (rG.mono _ (ro.now.rel.sub _ _ en)) si λrJ sY rM _ s9=>?_;have m:=back rJ ((l.trans rG).trans rM);exact z.ex ⟨_,w.now.step m rJ.now.rel⟩ n x m.weak ⟨rM.th _ _ (rG.th _ _ en),C,sY,s9.elim λob k=>⟨ob,k.1,by cases k.2 with|mk vs t z h2 h1 hb ht=>exact⟨vs,t,z,h2,h1,nofun,ht⟩⟩⟩ q⟩
theorem oS{o:Obj}{h:Heap}(e:h.get? a=some o)(hd:o.data=.func fd):d9 (.ref a) h:=⟨.frame,.inl rfl,by
 intro A Q E s k q;unfold keeperOf;refine qA (PySem.wpAny_load (k _ _ e) ?_);refine(hd).symm▸?_;exact qB q⟩
noncomputable abbrev EndC(P X:Value->Shared->Prop)(r:Result)(s':Shared):Prop:=match r with|.ok (.ret v)=>P v s'|.ok _=>False|.error e=>X e s'
theorem p0(w:Wn g fr L)(hd:g.d=d+1)(F:FnAt f fd)(hdf:gn w.y.h fd.defaults)(r:VsRel w.y us vs)(hb:gE f.params us=some ps)(hup:∀(i:Nat) (k:Hd),look i up=some k->cB (fd.scope.names.lookup (nm i))=true->∃b:Addr,fd.closure.lookup (nm i)=some b/\w.y.θ k=some b)
  {C:Env->Shared->Prop} {X:Value->Shared->Prop} (k:∀h' n (i:Idle w.y.h h'),∀w':Wn (gC d g fd w.y.h.objs.size a) ⟨ps,up⟩ L,w'.y=w.y.to h' n->C (lK fd w.y.h.objs.size a) w'.y.s) :
  wpAny M g.A.in1 (bindArgs fd ⟨vs,[]⟩) (λbinds rj=>wpAny M g.A.in1 (newFunctionEnv fd.scope fd.globals fd.closure binds (fd.qualname++".<locals>.") (some a) fd.code none fd.builtins) (λenv ry=>ry.heap.NoLimit/\C env ry) X rj) X w.y.s:=by
 refine dL F.pos F.args F.var F.kwo F.kww (jh F.nodup) (by rw[qG,(f6 (i:=0) (u:=.non) hb r).1,r.len]) (lB hdf) ?_;refine lw<|wpAny_newFunctionEnv F.nocell (λx hx=>?_) (λh' hns hsb=>?_) F.kind
 .obtain⟨i,hi,e⟩:=List.mem_map.mp (List.of_mem_zip hx).1;rw[<-e];exact F.loc i hi
 .have i:Idle w.y.h h':=⟨λb o e=>hsb.extBut b o (q_ (qZ e)) (qE _ e),by rw[hsb.1,Heap.size_push];exact Nat.le_succ _⟩;exact⟨(nolim w.now.rel.up).keeps i.keep,k h' _ i ⟨_,w.enter hd F r hb hup hns i⟩ rfl⟩
theorem Wn.deep(w:Wn g fr L):g.A.depth<recursionLimit:=qL (Nat.lt_add_of_pos_right (by decide)) w.room.1
theorem iw(w:Wn g fr L)(hd:g.d=d+1){o:Obj}(hbody:fd.body=.stmts (xss f.body))(sn:aP f.body)(ho:w.y.h.get? a=some o)(hd':o.data=.func fd)(F:FnAt f fd)(hcd:w.y.h.CodeRec fd.code fd.qualname)(hdf:gn w.y.h fd.defaults)(r:VsRel w.y us vs)
  (hup:∀(i:Nat) (k:Hd),look i up=some k->cB (fd.scope.names.lookup (nm i))=true->∃b:Addr,fd.closure.lookup (nm i)=some b/\w.y.θ k=some b) (hb:gE f.params us=some ps) (z:Fz VRel w Q E) (q:(wp d f.body g.hd).stms ⟨ps,up⟩ L (Rt Q fr) λn _ L=>E n fr L) :
  af M g.A (.call (.ref a) ⟨vs,[]⟩) (EndC z.P z.X) w.y.s :=
 bT w.deep ho hd' F.co F.gen hbody hcd (p0 w hd F hdf r hb hup λh' n i w' e=>fQ (sn.stms w' F.kd ⟨⟨_,rfl⟩,rfl⟩ _ _ (.mk _ _ (lL i e z (λ_ _ q=>q) λ_ q=>q)) q))
end
end
section
noncomputable def HE(d:Nat)(hd:Bool)(a:Nat)(us:List V):Ab V:=λfr L Q E=>∀⦃g:G⦄ (w:Wn g fr L) {vs},g.d=d->g.hd=hd->VsRel w.y us vs->∀z:Fz VRel w Q E,af M g.A (.call (.ref a) ⟨vs,[]⟩) (EndC z.P z.X) w.y.s
noncomputable def jp(d:Nat)(hd:Bool)(a:Nat)(us:List V):Ab V:=λfr L Q E=>match look a T.fns with
 | some f=>(match gE f.params us with|some ps=>(wp d f.body hd).stms ⟨ps,[]⟩ L (Rt Q fr) λn _ L=>E n fr L|none=>False)
 | none=>False
section
variable {g:G} {fr fr':Fr} {L L':Hp} {d:Nat} {hd:Bool} {f:Fn} {us:List V} {C:Nat} {kc:Cls} {Q:V->Fr->Hp->Prop} {E:Hd->Fr->Hp->Prop} {i:Nat} {cs:List (Nat×Hd)} {n:Hd} {ps:List (Nat×V)}
theorem FnTop.up{a:Nat}{h:Heap}{P:Prop}(U:Up h)(x:FnTop a f)(k:∀o fd,h.get? a=some o->o.data=.func fd->fd.body=.stmts (xss f.body)->FnAt f fd->h.CodeRec fd.code fd.qualname->gn h fd.defaults->P):P:=by
 cases x with
 | mk o fd e d b F cd df=>exact k o fd (U.keep _ _ e) d b F (cd.keeps λb o e=>U.keep b o e) (df.imp id λ⟨T,o,xs,n,e1,e2,e3⟩=>⟨T,o,xs,n,e1,U.keep _ _ e2,e3⟩)
theorem k_top{a:Nat}(h1:(look a T.fns).isSome=true)(q:HE d hd a us fr L Q E):HK d hd (.top a) us fr L Q E:=λg w gv vs e1 e2 rg rv z=>by
 cases rg.now;cases e:look a T.fns with
 | none=>rw[e] at h1;cases h1
 | some f=>exact(fn_top a f e).up w.now.rel.up λo fd h1 h2 _ _ _ _=>⟨oS h1 h2,aZ (q w e1 e2 rv z)⟩
theorem e_def(sn:∀x,aP x){a:Nat}(q:jp d hd a us fr L Q E):HE (d+1) hd a us fr L Q E:=λg w vs e1 e2 rv z=>by
 unfold jp at q;cases e:look a T.fns with
 | none=>rw[e] at q;exact q.elim
 | some f =>
  rw[e] at q;change (match gE f.params us with|some ps=>_|none=>False) at q;cases hb:gE f.params us with
  | none=>rw[hb] at q;exact q.elim
  | some ps =>
   rw[hb] at q;subst e2;exact(fn_top a f e).up w.now.rel.up λo fd h1 h2 h3 F h4 h5=>iw (up:=[]) w e1 h3 (sn _) h1 h2 F h4 h5 rv (λ_ _ e=>bA e) hb z q
noncomputable abbrev gT(d:Nat)(g:G)(C:Addr)(as:List Value):G:={g with d:=d,A:=g.A.under (.builtin "type.__call__" ⟨.ref C::as,[]⟩)}
theorem At.tcall{C:Addr}{as:List Value}(x:At g)(hd:g.d=d+1):At (gT d g C as):=⟨x.frames,x.mine,x.hd,qC (by show g.A.depth+1+(8*d+60)<=g.A.depth+(8*g.d+60);rw[hd];omega) x.depth,qC (by show g.A.units+1+(60*d+300)<=g.A.units+(60*g.d+300);rw[hd];omega) x.units,x.fn,x.glb,x.blt⟩
theorem init_r{w:Wn g fr L}(hd':g.d=d+1)(hh:g.hd=hd){C:Addr}{as vs:List Value}{a:Nat}{x:Addr}(z:Fz VRel w Q E)(w':Wn g fr L')(l:Le w w')(e:w'.y.θ n=some x)(rv:VsRel w'.y us vs)(q:HE d hd a us fr L' (λv fr L=>v=.non/\Q (.ref n) fr L) E):
  af M (g.A.under (.builtin "type.__call__" ⟨.ref C::as,[]⟩)) (.call (.ref a) ⟨vs,[]⟩) (InitBack x (EndC z.P z.X)) w'.y.s :=
 have back:∀{fr' L'} (ro:Wn (gT d g C as) fr' L'),Now g fr' L' ro.y:=λro=>⟨w.now.at',ro.now.rel,ro.now.fr',⟨ro.now.stk.fr,ro.now.stk.hn⟩⟩
 bo (q (g:=gT d g C as) ⟨w'.y,w.now.at'.tcall hd',w'.now.rel,w'.now.fr',⟨w'.now.stk.fr,w'.now.stk.hn⟩⟩ rfl hh rv (.mk (λv s'=>v=.none/\z.P (.ref x) s') z.X ⟨λro a b rA r q=>by
   cases q.1;exact⟨r.now,z.ok ⟨_,back ro⟩ (.ref n) (.ref x) (l.trans rA) (λy' k=>⟨x,rfl,k.th _ _ (rA.th _ _ e)⟩) q.2⟩,λro n e rA=>z.ex ⟨_,back ro⟩ n e (l.trans rA)⟩)) λr s' z=>by
  cases r with
  | error e=>exact z
  | ok v=>cases v<;>exact z
theorem fE(h1:look C T.cls=some kc)(h2:kc.isExc=false)(q:Al (.ns []) L λm L=>Al (.inst C m) L λn L=>HE d hd kc.init (.ref n::us) fr L (λv fr L=>v=.non/\Q (.ref n) fr L) E):HK (d+1) hd (.top C) us fr L Q E:=by
 exists h1 h2 q,zF fr,zL L,zN d,zB hd,zL us,zN C,zC kc,aK Q,aK E;intro g w gv vs e1 e2 rg rv z;cases rg.now;have Z:=cF _ kc h1;refine⟨keeps_K Z.keep _ w.now.rel.up.kin,aZ (makeI w.now.rel.up.kin (Z.inst h2).1 Z.init Z.fn ?_)⟩;refine nn λno=>?_;obtain⟨m,s5,rt,rP,l₁,_,q⟩:=w.made w.y.s.toks (Idle.push _ emptyDict) (qW _) (qK _ rfl) q λm e y' yl=>⟨[],0,rfl,.nil,r0 _⟩;obtain⟨n,rH,ro,rN,rA,tL,q⟩:=rt.made w.y.s.toks (Idle.push _ (instObj C w.y.h.objs.size)) (qW _) (qK _ rfl) q λn e y' yl=>⟨_,rfl,yl.th _ _ (dR e (by rw[rP];exact bX))⟩;refine no ?_;have hs:rt.y.h.objs.size=w.y.h.objs.size+1:=by rw[rP];exact Heap.size_push ..
 have et:ro.y.θ n=some (w.y.h.objs.size+1):=by rw[rN,<-hs];exact bX
 have:=init_r (C:=C) (as:=vs) (vs:=.ref (w.y.h.objs.size+1)::vs) e1 e2 z ro (l₁.trans rA) et (.cons (show VRel ro.y (.ref n) (.ref (w.y.h.objs.size+1)) from λy' k=>⟨_,rfl,k.th _ _ et⟩) (rv.mono (l₁.trans rA).toYl)) q;rw[rN,rP] at this;exact this
noncomputable abbrev excOb(C t:Addr):Obj:={cls:=.ref C,data:=.fields #[.ref t,.none,.none,.none,.bool false,.none]}
theorem k_newE(h1:look C T.cls=some kc)(h2:kc.isExc=true)(h3:Nat.ble us.length 20=true)(q:Al (.exc C none) L λn L=>HE d hd kc.init (.ref n::us) fr L (λv fr L=>v=.non/\Q (.ref n) fr L) E):HK (d+1) hd (.top C) us fr L Q E:=λg w gv vs e1 e2 rg rv z=>by
 cases rg.now;have Z:=cF _ kc h1;refine⟨keeps_K Z.keep _ w.now.rel.up.kin,aZ (makeE w.now.rel.up.kin (Z.exc h2).1 Z.init Z.fn (rv.len▸r9 h3) ?_)⟩;have i:=Idle.push w.y.h (ku vs 0);have l₁:=Le.idle (w:=w) i w.y.s.toks;refine nn λno=>?_;obtain⟨n,rH,ro,rN,rA,tL,q⟩:=(w.idle i w.y.s.toks).made w.y.s.toks (Idle.push _ (excOb C w.y.h.objs.size)) (qW _) (qK _ rfl) q λn e y' yl=>⟨none,⟨_,.none,qW 6,rfl,rfl,nofun,.inl rfl⟩,trivial,by unfold eW;rw[h1];exact h2⟩;refine no ?_;have hs:(w.idle i w.y.s.toks).y.h.objs.size=w.y.h.objs.size+1:=Heap.size_push ..;have et:ro.y.θ n=some (w.y.h.objs.size+1):=by rw[rN,<-hs];exact bX
 have:=init_r (C:=C) (as:=vs) (vs:=.ref (w.y.h.objs.size+1)::vs) e1 e2 z ro (l₁.trans rA) et (.cons (show VRel ro.y (.ref n) (.ref (w.y.h.objs.size+1)) from λy' k=>⟨_,rfl,k.th _ _ et⟩) (rv.mono (l₁.trans rA).toYl)) q;rw[rN] at this;exact this
inductive CloBody (f:Fn):FuncBody->Prop
 | st:CloBody f (.stmts (xss f.body))
 | ex (x:X) (p:Pos) (h:f.body=.cons (.s1 .ret x p) .nil):CloBody f (.expr (xe x))
theorem clos_all:AllE (λk f=>(chkP f (ck k).1 (ck k).2.2&&(pd true f (ck k).2.2&&pd false f (ck k).2.2))=true/\((ck k).2.1=.stmts (xss f.body)\/∃x p,(ck k).2.1=.expr (xe x)/\f.body=.cons (.s1 .ret x p) .nil)) T.clos :=
 ⟨⟨by rfl',.inr ⟨_,_,rfl,rfl⟩⟩,⟨by rfl',.inl rfl⟩,⟨by rfl',.inl rfl⟩,trivial⟩
theorem fn_clo(k:Nat)(f:Fn)(e:look k T.clos=some f):(∀fd:FuncData,fd.params=(ck k).1->fd.scope=(ck k).2.2->fd.globals=mainGlobals->fd.builtins=builtinsNs->FnAt f fd)/\CloBody f (ck k).2.1:=by
 revert e;revert k f;refine @al2 _ _ zN zn ?P ((?f:∀a b,?P a b) _ _);intro k f e;have h:=clos_all.at e;refine⟨λfd e1 e2 e3 e4=>.of e3 e4 (e1▸e2▸ae h.1) ?_,h.2.elim (λz=>z▸.st) λ⟨x,p,z,y⟩=>z▸.ex x p y⟩;refine(e2).symm▸?_;cases cL fd.code with
 | true=>exact ae (a8 h.1)
 | false=>exact a8 (a8 h.1)
theorem clo_nc:∀k,(ck k).2.2.names.all (λx=>noCell x.2)=true
 | 0=>by rfl'
 | 1=>by rfl'
 | _+2=>by rfl'
theorem jT{κ β:Type}[BEq κ][LawfulBEq κ]{k:κ}{v:β}:∀{l:List (κ×β)},l.lookup k=some v->(k,v)∈l
 | (j,u)::r,e=>by
  rw[List.lookup_cons] at e;cases q:k==j with
  | true=>rw[q] at e;cases e;rw[eq_of_beq q];exact .head _
  | false=>rw[q] at e;exact .tail _ (jT e)
theorem clo_free(k i:Nat)(h:cB ((ck k).2.2.names.lookup (nm i))=true):(ck k).2.2.names.lookup (nm i)=some .free:=by
 cases e:(ck k).2.2.names.lookup (nm i) with
 | none=>rw[e] at h;cases h
 | some c =>
  have z:=List.all_eq_true.mp (clo_nc k) _ (jT e);rw[e] at h;cases c<;>first|rfl|exact nomatch (show false=true from z)|cases h
noncomputable def cloW(d:Nat)(hd:Bool)(k:Nat)(cs:List (Nat×Hd))(us:List V):Ab V:=λfr L Q E=>match look k T.clos with
 | some f=>(match gE f.params us with|some ps=>(wp d f.body hd).stms ⟨ps,cs⟩ L (Rt Q fr) λn _ L=>E n fr L|none=>False)
 | none=>False
theorem k_clo(sn:∀x,aP x)(m:(n,O.fn i cs)∈L)(q:cloW d hd i cs us fr L Q E):HK (d+1) hd (.ref n) us fr L Q E:=λg w gv vs e1 e2 rg rv z=>by
 unfold cloW at q;cases e:look i T.clos with
 | none=>rw[e] at q;exact q.elim
 | some f =>
  rw[e] at q;change (match gE f.params us with|some ps=>_|none=>False) at q;cases hb:gE f.params us with
  | none=>rw[hb] at q;exact q.elim
  | some ps =>
   rw[hb] at q;subst e2;refine bf w.now.rel m rg λa o ea eo ⟨fd,_,e3,F⟩=>?_;refine nn λno=>?_;obtain⟨hF,hB⟩:=fn_clo i f e;have Ff:=hF fd F.params F.scope F.globals F.builtins;obtain⟨b,oc,cv,tq,c1,c2,_,c4,c5⟩:=F.code;refine no ?_;have hup:∀(i':Nat) (k:Hd),look i' cs=some k->cB (fd.scope.names.lookup (nm i'))=true->∃b:Addr,fd.closure.lookup (nm i')=some b/\w.y.θ k=some b:=λi' j e1 e2=>F.cells i' j e1 (by rw[F.scope] at e2 ⊢;exact clo_free i i' e2);refine⟨oS eo e3,aZ ?_⟩;have fb:=F.body;generalize (ck i).2.1=B at hB fb;cases hB with
   | st=>exact iw w e1 fb (sn _) eo e3 Ff ⟨b,oc,cv,tq,c1,c2,c4,c5⟩ (.inl F.dflt) rv hup hb z q
   | ex x p h =>
    refine jV w.deep eo e3 Ff.co Ff.gen fb ⟨b,oc,cv,tq,c1,c2,c4,c5⟩ (p0 w e1 Ff (.inl F.dflt) rv hb hup λh' n i w' e=>?_);have kd:=Ff.kd;rw[h] at kd q;have B:=lL (n:=n) i e z (P':=λf s'=>z.P (match f with|.ret v=>v|_=>.none) s') (λ_ _ q=>q) λ_ q=>q;exact jU ((sn x).val w' (ae (ae kd)) _ _ (.mk z.P (λx s'=>wpAny M (g.A.deeper (lK fd w.y.h.objs.size a)) (leaving (lK fd w.y.h.objs.size a) x) (λ_ s''=>z.X x s'') z.X s') ⟨λro a b l r q=>B.ok ro (.ret a) (.ret b) l ⟨b,rfl,r⟩ q,B.ex⟩) q)
end
end
section
theorem third_ok:nsIn KF cStatics "thirdparty.any"=some none:=by rfl'
section
variable {x z r xs f o:X} {p ap:Pos} {g:G} {fr:Fr} {L:Hp} {w:Wn g fr L} {us:List V} {vs:List Value}
theorem hW(xs:X)(env:Env)(p:Pos):((backTo p (starEach (xl xs) env)).any (·.1))=false/\(xl xs=[]\/∃t r,backTo p (starEach (xl xs) env)=(false,t)::r) :=
 X.view (C:=λxs=>((backTo p (starEach (xl xs) env)).any (·.1))=false/\(xl xs=[]\/∃t r,backTo p (starEach (xl xs) env)=(false,t)::r)) ⟨rfl,.inl rfl⟩ (λx r ih=>by
  have e:xl (.cons x r)=xe x::xl r:=rfl;rw[e,dY];exact⟨ih.1,.inr ⟨_,_,rfl⟩⟩) (λx i=>by rw[i.lst];exact⟨rfl,.inl rfl⟩) xs
theorem jo(hx:aP xs)(hk:kd g.env xs=true){fv:Value}{first:List Value}{n:List V->Ab V}
  (k:∀{fr' L'} (w':Wn g fr' L') vs us,Le w w'->VsRel w'.y vs us->∀Q E (z:Fz VRel w' Q E),n vs fr' L' Q E->d9 fv w'.y.h/\wpAny M g.A (call fv (first++us)) z.P z.X w'.y.s) :
  R VRel w (callWith p fv first (backTo p (starEach (xl xs) g.env)) []) ((wp g.d xs g.hd).vals.bind n):=by
 exists w hx hk n k,zX xs,zP p,zG g,zF fr,zL L,zV fv,zL first
 intro Q E z q;have s:=hW xs g.env p;refine lJ (P:=d9 fv) (by rw[s.1];rfl) (λ_ z=>z) ?_;have h:=hx.vals p w hk _ _ (.mk (λvs rj=>d9 fv rj.heap/\wpAny M g.A (call fv (first++vs)) z.P z.X rj) z.X ⟨λw' a b l r q=>k w' a b l r Q E (z.mv l) q,z.ex⟩) q;refine s.2.elim (λe=>?_) λ⟨t,r,e⟩=>?_
 .rw[e] at h ⊢;show wpAny _ _ (spliced []>>=_) _ _ _;exact a0 (ag h (λvs rj z=>a0 (a7 (ac (a0 (a7 (a0 (a7 (a7 z)))))))) λ_ _ z=>z)
 .rw[e] at h ⊢;exact Calls.evalArgs_plain h
theorem snd_call(hf:aP f)(hx:aP xs):aP (.call f xs p):=.ofV (λ_ _=>rfl) λ{g fr L} w k=>by
 refine(?_:R VRel w (eval (.Call (xe f) (xl xs) [] p) g.env) _);rw[(form f).cal (gy (a8 (a8 (a8 k))))];exact .bind (hf.val w (ae k)) λrt gv fv l r=>jo hx (ae (a8 k)) λro vs us rA rv Q E z q=>q ro rfl rfl (r.mono rA.toYl) rv z
theorem xlen_es(xs:X):(xl xs).length=cQ xs:=X.view (C:=λxs=>(xl xs).length=cQ xs) rfl (λ_ _ ih=>qF (·+1) ih) (λx i=>by rw[i.lst,i.len];rfl) xs
theorem ns_ne{fr':Fr}{L':Hp}{w':Wn g fr' L'}{x:Addr}{o:Obj}(e:w.y.h.get? x=some o)(h:∀es n,o.data≠.dict es n):x≠g.env.locals:=λz=>by
 obtain⟨m,⟨o',es,ep,e',d,_⟩,_⟩:=w.now.fr'.loc;cases(z▸e).symm.trans e';exact h _ _ d
theorem MtRel.le{fr':Fr}{L':Hp}{w':Wn g fr' L'}(m:Le w w'){t:Mt}{p:Value×List Value}(r:MtRel g.l w.y t p):MtRel g.l w'.y t p:=by
 cases t with
 | fn _ _=>exact⟨r.1.mono m.toYl,r.2.mono m.toYl⟩
 | bi _ _=>exact⟨r.1,r.2.mono m.toYl⟩
 | frb=>exact r.elim λx q=>⟨x,q.1,m.keep _ _ q.2.2.2.2 q.2.1 q.2.2.1 q.2.2.2.1 λz=>ns_ne (w':=w') q.2.1 nofun (qJ z),m.notown q.2.1 q.2.2.1,q.2.2.2⟩
section
variable {v:V} {uv:Value} {a C fa:Nat} {kc:Cls} {dd n:Hd} {fs:List (Nat×V)} {Q:Mt->Fr->Hp->Prop} {E:Hd->Fr->Hp->Prop}
theorem mc_fld{f:V}(m:(n,O.inst C dd)∈L)(m':(dd,O.ns fs)∈L)(h1:look C T.cls=some kc)(h2:kc.isExc=false)(h3:kc.attrs.elem a=true)(h4:look a fs=some f)(q:Q (.fn f []) fr L):qz (.ref n) a fr L Q E:=λg w u pl r z =>
 eown (K:=C) (a:=a) w.now.rel (.inst m m' (by unfold fK;rw[h1];exact h3)) r λx ox ad ds t _ o=>by
  have Z:=cF _ kc h1;have U:=w.now.rel.up;refine nn λno=>?_;obtain⟨cd,hcd,hdd,hx,hi⟩:=Z.cd;refine no ?_;exact((jW o.nms).2 _ h4).elim λen hf=>lw<|m_attrK can_o U.kin (Z.attr _ h3) (Z.inst h2).2 Z.ga o.at' o.cls o.dict (eO o.pl) o.dat (jv U.kin hcd hdd (Z.attr _ h3) (Z.inst h2).2 o.at' o.cls o.dict (eO o.pl) o.dat hf.1 (gr hf.2) λt=>z.toks (a:=.fn f []) (b:=(en.val,[])) ⟨hf.2.tok,.nil⟩ q)
theorem mc_inst(m:(n,O.inst C dd)∈L)(m':(dd,O.ns fs)∈L)(h1:look C T.cls=some kc)(h2:kc.isExc=false)(h3:look a fs=none)(h4:look a kc.meths=some fa)(q:Q (.fn (.top fa) [.ref n]) fr L):qz (.ref n) a fr L Q E:=λg w u pl r z =>
 bf w.now.rel m r λx ox ex g ⟨ad,e1,e2⟩=>eN w.now.rel m' e2 λod e3 ⟨ds,t,e4,rr,_⟩=>by
  have Z:=cF _ kc h1;refine nn λno=>?_;obtain⟨y1,y2,of,y3,y4⟩:=Z.meth _ _ h4;refine no ?_;have X:=w.now.rel.up.kin;exact lw<|m_instK can_o X g (by rw[e1]) (by rw[e1]) (eO (.inl (by rw[e1]))) (e4▸e3) (Z.inst h2).2 Z.ga y1 (X _ _ y3) y4 ((jW rr).1 h3) (lj rr) (z.now (a:=.fn (.top fa) [.ref n]) ⟨λ_ _=>rfl,.cons (show VRel _ (.ref n) (.ref x) from λy' k=>⟨x,rfl,k.th _ _ ex⟩) .nil⟩ q)
theorem mc_cls(h1:look C T.cls=some kc)(h4:look a kc.meths=some fa)(q:Q (.fn (.top fa) []) fr L):qz (.top C) a fr L Q E:=λg w u pl r z=>by
 cases r.now;have Z:=cF _ kc h1;exact lw<|m_clsK w.now.rel.up.kin third_ok Z.typ (Z.meth _ _ h4).2.1 λt=>z.toks (a:=.fn (.top fa) []) ⟨λ_ _=>rfl,.nil⟩ q
theorem mt_e{m:Mt}{P:Prop}(h:mtOf v a L=some m)(f:∀C dd fs kc k,v=.ref (.l k)->(.l k,O.inst C dd)∈L->(dd,O.ns fs)∈L->look C T.cls=some kc->kc.isExc=false->((∃x,look a fs=some x/\kc.attrs.elem a=true/\m=.fn x [])\/∃fa,look a fs=none/\look a kc.meths=some fa/\m=.fn (.top fa) [v])->P):P :=
 gx h λp h1 h=>gx h λkc h2 h=>ii h1 λk e m1 g=>by
  refine f _ _ _ kc k e m1 (a9 g) h2 ?_ ?_
  .cases z:kc.isExc with
   | true=>rw[z] at h;cases h
   | false=>rfl
  .cases z:kc.isExc with
   | true=>rw[z] at h;cases h
   | false =>
    rw[z] at h;cases x:look a p.2 with
    | some w =>
     rw[x] at h;change (match kc.attrs.elem a with|true=>some (Mt.fn w [])|false=>none)=some _ at h;cases q:kc.attrs.elem a with
     | true=>rw[q] at h;cases h;exact .inl ⟨w,rfl,rfl,rfl⟩
     | false=>rw[q] at h;cases h
    | none =>
     rw[x] at h;exact gx h λfa h3 h=>.inr ⟨fa,rfl,h3,(qJ h).symm⟩
theorem metW_ok{pl:Sem Bool}(r:VRel w.y v uv):R (λy m p=>MtRel g.l y m p) w (getMethod uv (nm a) pl) (metW v a):=R.at' (m:=λ_ L=>aD (mtOf v a L) (qz v a) .ret)<|.opt (λQ E z q=>q w r z) λm e Q E z q=>mt_e e λC dd fs kc k e1 m1 m2 h1 h2 h=>by
 subst e1;refine h.elim (λ⟨x,h3,h4,e⟩=>?_) λ⟨fa,h3,h4,e⟩=>?_
 .cases e;exact mc_fld m1 m2 h1 h2 h4 h3 q w r z
 .cases e;exact mc_inst m1 m2 h1 h2 h3 h4 q w r z
end
theorem pP{a:Nat}(ho:aP o)(hx:aP xs):aP (.mcall o a xs ap p):=.ofV (λ_ _=>rfl) λ{g fr L} w k=>by
 have k2:=a8 (a8 k);refine(?_:R VRel w (eval (.Call (.Attribute (xe o) (nm a) ap) (xl xs) [] p) g.env) _);rw[arm_eval_Call,jw];refine .bind (ho.val w (ae k)) λrt v u l r=>.stand ?_;have hform:methodCallForm ((xl xs).length+([]:List Keyword).length) (backTo p (starEach (xl xs) g.env)) (backToKw p (keywordEach [] g.env))=true:=by
  unfold methodCallForm;rw[show(backTo p (starEach (xl xs) g.env)).all (λx=>!x.1)=true from List.all_eq_true.mpr λx hx=>by simpa using List.any_eq_false.mp (hW xs g.env p).1 x hx,xlen_es];refine(?_:(true&&true&&decide (cQ xs+0+0<30))=true);refine(decide_eq_true (show cQ xs+0+0<30 from r6 (r9 (ae k2)) (by decide))).symm▸?_;rfl
 have hpos:methodCallPos true (xe o) g.env ap p=pure p:=by unfold methodCallPos;rw[qH (a8 k2)];simp
 unfold methodCall;refine(hform).symm▸?_;refine .bind (.hold (metW_ok r)) λro m pp rA rm=>?_;refine(hpos).symm▸?_;exact .pur (jo hx (ae (a8 k)) λrF vs us rG rv Q E z q=>by
  cases m with
  | fn f fs=>exact q rF rfl rfl (rm.1.mono rG.toYl) ((rm.2.mono rG.toYl).app rv) z
  | _=>exact q rF rfl rfl (MtRel.le rG rm) rv z)
end
end
section
theorem fM{A:Around}{env:Env}{target:Expr}{it:Value}{body:List Stmt}{P:Flow->Shared->Prop}{X:Value->Shared->Prop}{R:Result->Shared->Prop}{s:Shared}(hP:∀f s,P f s->R (.ok f) s)(hX:∀e s,X e s->aH M A env (λe s'=>R (.error e) s') e s)
  (h:wpAny M A (pyNext it) (λr rj=>match r with
   | none=>P .next rj
   | some v=>wpAny M A (letOwnedTupleGo target it v) (λ_ ry=>wpAny M A (assign target env v) (λ_ rE=>wpAny M A (execs body env) (λf rI=>match f with
     | .next=>af M A (.forLoop target it body [] env) R rI
     | .ret v=>P (.ret v) rI
     | _=>False) X rE) X ry) X rj) X s):af M A (.forLoop target it body [] env) R s:=by
 exists hP hX h,zA A,zQ env,ze target,zV it,zL body,aN P,aN X,aN R,zS s;refine aq ?_;refine(?_:wpAny M A ((forTurn target it body [] env).onRaise (λx=>do noteFrame x env;theTreesLotGoes x)) _ _ s);refine bE ?_;simp only[forTurn];refine a0 (aj (a0 (bc (ag h (λr rj z=>?_) λ_ _ z=>aj (hX _ _ z)))));cases r with
 | none=>exact a7 ⟨rfl,cP (lw<|wpAny_execs_nil (hP _ _ z))⟩
 | some v =>
  refine a0 (ag z (λ_ ry z=>a0 (ag z (λ_ rE z=>a0 (ag z (λf rI z=>?_) hX)) hX)) hX);cases f with
  | next=>exact a7 ⟨rfl,z⟩
  | ret v=>exact a7 (hP _ _ z)
  | _=>exact z.elim
inductive ItS:Ik->Addr->Addr->Addr->Prop
 | it (I:Ik) (it li:Addr):ItS I it li it
 | li (n:Hd) (i:Nat) (it li:Addr):ItS (.enu n i) it li li
def IkAt(y:Y)(it li:Addr):Ik->Prop
 | .lst n i=>∃lad,y.θ n=some lad/\y.h.IsListIter it lad i
 | .enu n i=>∃lad old,y.θ n=some lad/\y.h.IsListIter li lad i/\IsEnum y.h it li i old/\it≠li
 | .rng lo k=>IsRangeIter y.h it lo k 1
structure Itr {g:G} {rX fr:Fr} {rY L:Hp} (w₀:Wn g rX rY) (w:Wn g fr L) (it li:Addr) (I:Ik):Prop where
 le:Le w₀ w
 far:∀b,ItS I it li b->w₀.y.h.objs.size<=b
 at':IkAt w.y it li I
 no:∀b,ItS I it li b->¬w.y.own b
section
variable {g:G} {fr rX fr':Fr} {L rY L':Hp} {w₀:Wn g rX rY} {w:Wn g fr L} {w':Wn g fr' L'} {it li:Addr} {I:Ik} {n:Hd} {i:Nat} {us:List V}
theorem fx{h:Heap}{it lad:Addr}{i:Nat}(x:h.IsListIter it lad i){o:Obj}(e:h.get? it=some o):bS o=false:=by
 obtain⟨o',e',c',d'⟩:=x;cases e.symm.trans e';unfold bS;rw[c',d'];rfl
theorem IkAt.imm{y:Y}(h:IkAt y it li I):∀b o,ItS I it li b->y.h.get? b=some o->bS o=false:=λb o s e=>by
 cases s with
 | it=>cases I with
  | lst n i=>exact h.elim λ_ h=>fx h.2 e
  | rng lo k=>cases e.symm.trans (show y.h.get? it=_ from h);rfl
  | enu n i=>exact h.elim λ_ h=>h.elim λ_ h=>by cases e.symm.trans (show y.h.get? it=_ from h.2.2.1);rfl
 | li n i=>exact h.elim λ_ h=>h.elim λ_ h=>fx h.2.1 e
theorem Wn.far{w₀:Wn g rX rY}{b:Addr}(hb:w₀.y.h.objs.size<=b):b∉dH g.l/\b≠g.env.locals:=⟨λf=>absurd (w₀.now.old (.inr f)) (Nat.not_lt.mpr hb),λz=>absurd (w₀.now.old (.inl z)) (Nat.not_lt.mpr hb)⟩
theorem IkAt.ex{y:Y}(h:IkAt y it li I){b:Addr}(s:ItS I it li b):∃o,y.h.get? b=some o:=by
 cases s with
 | it=>cases I with
  | lst n i=>exact h.elim λ_ h=>h.2.elim λo h=>⟨o,h.1⟩
  | rng lo k=>exact⟨_,h⟩
  | enu n i=>exact h.elim λ_ h=>h.elim λ_ h=>⟨_,h.2.2.1⟩
 | li n i=>exact h.elim λ_ h=>h.elim λ_ h=>h.2.1.elim λo h=>⟨o,h.1⟩
theorem Itr.keep(J:Itr w₀ w it li I)(l:Le w₀ w')(yl:Yl w.y w'.y)(k:∀b o,ItS I it li b->w.y.h.get? b=some o->w'.y.h.get? b=some o)(no:∀b,ItS I it li b->¬w'.y.own b):Itr w₀ w' it li I:=⟨l,J.far,by
 cases I with
 | lst n i=>obtain⟨lad,e,o,a,r⟩:=J.at';exact⟨lad,yl.th _ _ e,o,k _ _ (.it ..) a,r⟩
 | enu n i=>obtain⟨lad,old,e,⟨o,a,r⟩,b,z⟩:=J.at';exact⟨lad,old,yl.th _ _ e,⟨o,k _ _ (.li ..) a,r⟩,k _ _ (.it ..) b,z⟩
 | rng lo j=>exact k _ _ (.it ..) J.at',no⟩
theorem Itr.mv(J:Itr w₀ w it li I){x:Option Addr}(m:Mv (dH g.l) x w.y w'.y)(l:Le w₀ w')(hx:∀b,ItS I it li b->some b≠x):Itr w₀ w' it li I :=
 J.keep l m.toYl (λb o s e=>m.keep b o (qC w₀.now.rel.up.size (J.far b s)) e (J.no b s) (Wn.far (J.far b s)).1 (hx b s)) λb s=>(J.at'.ex s).elim λo e=>m.notown e (J.no b s)
theorem Itr.move(J:Itr w₀ w it li I)(l:Le w w'):Itr w₀ w' it li I:=J.mv l (J.le.trans l) λb s z=>(Wn.far (J.far b s)).2 (qJ z)
structure Tn (S:Addr->Prop) (y y':Y):Prop where
 own:y'.own=y.own
 keep:∀b o,¬S b->y.h.get? b=some o->y'.h.get? b=some o
 yl:Yl y y'
theorem Itr.turn(J:Itr w₀ w it li I){h':Heap}(t:Nat)(k:∀b o,¬ItS I it li b->w.y.h.get? b=some o->h'.get? b=some o)(z:w.y.h.objs.size<=h'.objs.size):∃w':Wn g fr L,w'.y=w.y.to h' t/\Le w₀ w'/\Tn (ItS I it li) w.y w'.y :=
 have i:Side (ItS I it li) w.y.h h':=⟨k,z,J.at'.imm⟩
 (Wn.side w₀ J.le t J.far J.no i).elim λw' q=>⟨w',q.1,q.2,by rw[q.1];exact⟨rfl,k,.side J.no i (λ_ _ e=>e) λ_ e=>e⟩⟩
theorem gS(w:Wn g fr L)(m:nU L (.ref n) us){lad:Addr}(e:w.y.θ n=some lad){P:Prop}(f:∀vs j,w.y.h.get? lad=some (aM vs j)->VsRel w.y us vs->P):P:=eN w.now.rel m e λob e ⟨vs,j,eo,r⟩=>f vs j (eo▸e) r
def pB(h:Heap)(it:Addr):Prop:=∃o N,h.get? it=some o/\o.cls=.type N/\(["enumerate","zip","dict_itemiterator","dict_reverseitemiterator","odict_iterator","itertools.zip_longest","itertools.pairwise"].contains N)=false
theorem kS{A:Around}{s:Shared}{E:Value->Shared->Prop}{it:Addr}{v:Value}{Q:Unit->Shared->Prop}(p:pB s.heap it)(h:Q () s)(e:Expr):wpAny M A (letOwnedTupleGo e (.ref it) v) Q E s:=by
 exists p h,zA A,zS s,aN E,zN it,zV v,aN Q,ze e;obtain⟨o,N,ho,hc,hT⟩:=p;have tup:wpAny M A (letOwnedTupleGo (.Tuple [] 0 ⟨0,0,0,0⟩) (.ref it) v) Q E s:=by
  cases v with
  | ref a =>
   refine a0 (bU ho ?_);refine(hc).symm▸?_;cases o.data with
   | fields vs=>exact bv (if_neg (by rw[hT];exact Bool.false_ne_true)) h
   | _=>exact a7 h
  | _=>exact a7 h
 cases e<;>first|exact a7 h|exact tup
inductive Nx (us:List V):Ik->V->Ik->Prop
 | lst (n:Hd) (i:Nat) (a:V) (h:us[i]?=some a):Nx us (.lst n i) a (.lst n (i+1))
 | rng (lo:Int) (j:Nat):Nx us (.rng lo (j+1)) (.int lo) (.rng (lo+1) j)
 | enu (n:Hd) (i:Nat) (a:V) (h:us[i]?=some a):Nx us (.enu n i) (.tup [.int (i:Int),a]) (.enu n (i+1))
def qy(L:Hp)(us:List V):Ik->Prop
 | .lst n _=>nU L (.ref n) us
 | .enu n _=>nU L (.ref n) us
 | .rng _ _=>True
theorem oV{n m:Hd}{i j:Nat}{b:Addr}(s:ItS (.enu n i) it li b):ItS (.enu m j) it li b:=by cases s<;>constructor
theorem oF(J:Itr w₀ w it li I){I':Ik}{a:V}(x:Nx us I a I')(m:qy L us I){P:Option Value->Shared->Prop}{K:Value->Shared->Prop}{X:Value->Shared->Prop}(k:∀(w':Wn g fr L) v,Itr w₀ w' it li I'->Tn (ItS I it li) w.y w'.y->VRel w'.y a v->K v w'.y.s)(hP:∀v s,pB s.heap it->K v s->P (some v) s)
  (hT:∀n i,I=.enu n i->∃es k p,∀v s,wpAny M g.A (letOwnedTupleGo (.Tuple es k p) (.ref it) v) (λ_ s=>K v s) X s->P (some v) s):wpAny M g.A (pyNext (.ref it)) P X w.y.s:=by
 exists rX rY w₀ w J x m k hP hT,zG g,zF fr,zL L,zN it,zN li,zk I,zL us,zk I',zv a,aN P,aN K,aN X;cases x with
 | lst n i a h =>
  refine nn λno=>?_;obtain⟨lad,e,hi⟩:=J.at';refine no ?_;refine gS w m e λvs j eo r=>?_;refine nn λno=>?_;obtain⟨x,hx,rx⟩:=r.get h;refine no ?_;refine lw<|wpAny_pyNext_list_item hi ⟨_,eo,rfl,j,rfl⟩ (x:=x) (List.getElem?_toArray▸hx) λrC sj sb=>hP _ _ (sj.elim λo z=>⟨o,_,z.1,z.2.1,by decide⟩) ?_;refine nn λno=>?_;obtain⟨w',e',l,yl⟩:=J.turn w.y.s.toks (λb o nb e=>(sb.2 b λz=>nb (z▸.it ..)).trans e) (qU sb.1.symm);refine no ?_;refine Eq.mp (qF (λy:Y=>K x y.s) e') (k w' x ⟨l,λb s=>by cases s;exact J.far _ (.it ..),by rw[e'];exact⟨lad,e,sj⟩,λb s=>by cases s;rw[e'];exact J.no _ (.it ..)⟩ yl (rx.mono yl.yl))
 | rng lo j =>
  have hi:IsRangeIter w.y.h it lo (j+1:Nat) 1:=J.at';refine lw<|wpAny_pyNext_range_item hi (by lia) λrC sj sb=>hP _ _ ⟨_,"range_iterator",sj,rfl,by decide⟩ ?_;refine nn λno=>?_;obtain⟨w',e',l,yl⟩:=J.turn (w.y.s.toks+1) (λb o nb e=>(sb.2 b λz=>nb (z▸.it ..)).trans e) (qU sb.1.symm);refine no ?_;have sZ:IsRangeIter rC it (lo+1) (j:Nat) 1:=by rw[show(((j+1:Nat):Int) - 1)=(j:Int) by lia] at sj;exact sj
  refine Eq.mp (qF (λy:Y=>K _ y.s) e') (k w' _ ⟨l,λb s=>by cases s;exact J.far _ (.it ..),by rw[e'];exact sZ,λb s=>by cases s;rw[e'];exact J.no _ (.it ..)⟩ yl bq)
 | enu n i a h =>
  refine nn λno=>?_;obtain⟨lad,old,e,hi,he,ne⟩:=J.at';obtain⟨es,k',p,hP⟩:=hT _ _ rfl;refine no ?_;refine gS w m e λvs j eo r=>?_;refine nn λno=>?_;obtain⟨x,hx,rx⟩:=r.get h;refine no ?_;refine lw<|wpAny_pyNext_enum_item he hi ⟨_,eo,rfl,j,rfl⟩ (x:=x) (List.getElem?_toArray▸hx) ne λrC sE sj sQ tM tN=>hP _ _ ?_;refine lw (wpAny_letOwnedTupleGo_enum sE λso sJ sR=>?_);refine nn λno=>?_;obtain⟨w',e',l,yl⟩:=J.turn (w.y.s.toks+1) (λb o nb e=>(sR.2 b λz=>nb (z▸.it ..)).trans (tN b o (λz=>nb (z▸.it ..)) (λz=>nb (z▸.li ..)) e)) (by rw[sR.1,tM];exact Nat.le_succ _);refine no ?_;have sZ:so.IsListIter li lad (i+1):=by obtain⟨o,ho,r⟩:=sj;exact⟨o,(sR.2 li ne.symm).trans ho,r⟩
  refine Eq.mp (qF (λy:Y=>K _ y.s) e') (k w' _ ⟨l,λb s=>J.far _ (oV s),by rw[e'];exact⟨lad,_,e,sZ,sJ,ne⟩,λb s=>by rw[e'];exact J.no _ (oV s)⟩ yl (λy' yl'=>by
   refine⟨_,rfl,_,_,yl'.imm _ _ (by rw[e'];exact(sR.2 _ (Nat.ne_of_gt (qZ he))).trans sQ) rfl,VRs.of (vs:=[.int i _,x]) (.cons bq (.cons ((rx.mono yl.yl).mono yl') .nil))⟩))
end
end
section
inductive En (us:List V):Ik->Prop
 | lst (n:Hd) (i:Nat) (h:us[i]?=none):En us (.lst n i)
 | rng (lo:Int):En us (.rng lo 0)
 | enu (n:Hd) (i:Nat) (h:us[i]?=none):En us (.enu n i)
abbrev pC(g:G)(X:Value->Shared->Prop):Value->Shared->Prop:=aH M g.A g.env λe s'=>aO M g.A g.env X e s'
abbrev dN(g:G)(P:Flow->Shared->Prop)(X:Value->Shared->Prop)(r:Result)(s':Shared):Prop:=match r with
 | .ok f=>P f s'
 | .error e=>aO M g.A g.env X e s'
section
variable {g:G} {fr rX fr':Fr} {L rY L':Hp} {w₀:Wn g rX rY} {w:Wn g fr L} {w':Wn g fr' L'} {it li:Addr} {I:Ik} {n:Hd} {i:Nat} {us:List V} {Q:Fl->Fr->Hp->Prop} {E:Hd->Fr->Hp->Prop}
theorem Fz.noted{α β:Type}{rel:Y->α->β->Prop}{Q:α->Fr->Hp->Prop}(z:Fz rel w Q E)(hb:Bdy g)(l:Le w w')(n:Hd)(e:Addr)(x:ExOf w'.y n e)(q:E n fr' L'):pC g z.X (.ref e) w'.y.s:=by
 refine nn λno=>?_;obtain⟨en,C,ad,x⟩:=x;refine no ?_;refine br w' hb (w'.now.rel.sub _ _ en) x λrt u9 l₁ sK=>iE rt (l₁.mono _ (w'.now.rel.sub _ _ en)) sK λro s7 rA _ rT=>?_;exact z.ex ro n e ((l.trans l₁).trans rA) ⟨rA.th _ _ (l₁.th _ _ en),C,s7,rT.elim λob k=>⟨ob,k.1,by cases k.2 with|mk vs t z h2 h1 hb ht=>exact⟨vs,t,z,h2,h1,nofun,ht⟩⟩⟩ q
theorem pv{vs:List Value}(r:VsRel w.y us vs)(h:us[i]?=none):vs.toArray[i]?=none:=by
 rw[List.getElem?_toArray,List.getElem?_eq_none_iff,r.len];exact List.getElem?_eq_none_iff.mp h
theorem o7(J:Itr w₀ w it li I)(x:En us I)(m:qy L us I){P:Option Value->Shared->Prop}{X:Value->Shared->Prop}(k:∀w':Wn g fr L,Le w₀ w'->Tn (ItS I it li) w.y w'.y->P none w'.y.s):wpAny M g.A (pyNext (.ref it)) P X w.y.s:=by
 have fin:∀h',(∀b o,¬ItS I it li b->w.y.h.get? b=some o->h'.get? b=some o)->w.y.h.objs.size<=h'.objs.size->P none {w.y.s with heap:=h'}:=λh' a b=>(J.turn w.y.s.toks a b).elim λw' q=>Eq.mp (qF (λy:Y=>P none y.s) q.1) (k w' q.2.1 q.2.2);have hn:=w.now.stk.hn';cases x with
 | lst n i h =>
  refine nn λno=>?_;obtain⟨lad,e,hi⟩:=J.at';refine no ?_;exact gS w m e λvs j eo r=>lw<|ib hn hi ⟨_,eo,rfl,j,rfl⟩ (pv r h) λrC g=>fin rC (λb o nb=>g.1 b o λz=>nb (z▸.it ..)) g.2
 | rng lo=>exact pV hn (show IsRangeIter w.y.h it lo 0 1 from J.at') (by decide) λrC g=>fin rC (λb o nb=>g.1 b o λz=>nb (z▸.it ..)) g.2
 | enu n i h =>
  refine nn λno=>?_;obtain⟨lad,old,e,hi,he,ne⟩:=J.at';refine no ?_;exact gS w m e λvs j eo r=>enum_end hn he hi ⟨_,eo,rfl,j,rfl⟩ (pv r h) λrC g=>fin rC (λb o nb=>g.1 b o λz=>nb (z▸.li ..)) g.2
theorem oO(hb:Bdy g)(z:Fz flrel w₀ Q E){te:Expr}{bs:List Stmt}{mt:V->Ab Fl}(ht:∀{fr L} (w:Wn g fr L) {v u},VRel w.y v u->∀Q E (z:Fz flrel w Q E),mt v fr L Q E->wpAny M g.A (assign te g.env u) (λ_ rE=>wpAny M g.A (execs bs g.env) z.P z.X rE) z.X w.y.s)
  {s:St} (h:Lp (·.2) (aU mt Q E) (λs=>Q .next s.1 s.2) I s):(∀n i,I=.enu n i->∃es k p,te=.Tuple es k p)->∀(w:Wn g s.1 s.2),Itr w₀ w it li I->af M g.A (.forLoop te (.ref it) bs [] g.env) (dN g z.P z.X) w.y.s:=by
 have stop:∀{I us} {s:St} (w:Wn g s.1 s.2),Itr w₀ w it li I->En us I->qy s.2 us I->Q .next s.1 s.2->af M g.A (.forLoop te (.ref it) bs [] g.env) (dN g z.P z.X) w.y.s:=λw J x m q =>
  fM (P:=z.P) (X:=pC g z.X) (λ_ _ z=>z) (λ_ _ z=>z) (o7 J x m λw' l _=>z.ok w' .next .next l rfl q)
 have step:∀{I I' us} {a:V} {s:St} {N:St->Prop} (w:Wn g s.1 s.2),(∀n i,I=.enu n i->∃es k p,te=.Tuple es k p)->Itr w₀ w it li I->Nx us I a I'->qy s.2 us I->aU mt Q E a s N->(∀s,N s->∀(w:Wn g s.1 s.2),Itr w₀ w it li I'->af M g.A (.forLoop te (.ref it) bs [] g.env) (dN g z.P z.X) w.y.s) ->
   af M g.A (.forLoop te (.ref it) bs [] g.env) (dN g z.P z.X) w.y.s:=λ{I I' us a s N} w he J x m q ih =>
  fM (P:=z.P) (X:=pC g z.X) (λ_ _ z=>z) (λ_ _ z=>z) (oF J x m (λw' v J' _ rv=>ht w' rv _ _ (.mk (λf rI=>match f with
     | .next=>af M g.A (.forLoop te (.ref it) bs [] g.env) (dN g z.P z.X) rI
     | .ret v=>z.P (.ret v) rI
     | _=>False) (pC g z.X) ⟨λw'' f fl l rf q=>by
      cases f with
      | next=>cases rf;exact ih (_,_) q w'' (J'.move l)
      | ret v=>exact rf.elim λu e=>by cases e.1;exact z.ok w'' (.ret v) (.ret u) (J'.le.trans l) ⟨u,rfl,e.2⟩ q,λw'' n e l x q=>z.noted hb (J'.le.trans l) n e x q⟩) q) (λv s p h=>kS p h _) λn i e=>(he n i e).elim λes z=>z.elim λk z=>z.elim λp z=>⟨es,k,p,λv s h=>z▸h⟩)
 induction h with
 | nil m h q=>exact λ_ w J=>stop w J (.lst _ _ h) m q
 | rnil q=>exact λ_ w J=>stop (us:=[]) w J (.rng _) trivial q
 | enil m h q=>exact λ_ w J=>stop w J (.enu _ _ h) m q
 | cons m h q k ih=>exact λhe w J=>step w he J (.lst _ _ _ h) m q λs n w J=>ih s n nofun w J
 | rcons q k ih=>exact λhe w J=>step (us:=[]) w he J (.rng _ _) trivial q λs n w J=>ih s n nofun w J
 | econs m h q k ih=>exact λhe w J=>step w he J (.enu _ _ _ h) m q λs n w J=>ih s n (λ_ _ _=>he _ _ rfl) w J
end
end
section
theorem enu_ok:look 6 T.glob=some (.ty 4):=rfl
section
variable {g:G} {fr fr':Fr} {L L':Hp} {w:Wn g fr L} {Q:Fl->Fr->Hp->Prop} {E:Hd->Fr->Hp->Prop} {t b it ts x:X} {p tp np cp:Pos}
theorem jd{lo hi:Int}(q:oh lo hi=true):Builtin.Range.small lo hi 1=true:=by
 revert q;revert lo hi;refine @al2 _ _ zI zI ?P ((?f:∀a b,?P a b) _ _);intro lo hi q;have q:(match decide (lo.natAbs<2 ^ 61) with|true=>decide (hi.natAbs<2 ^ 61)|false=>false)=true:=q;cases z:decide (lo.natAbs<2 ^ 61) with
 | false=>rw[z] at q;cases q
 | true =>
  rw[z] at q;have h1:=qD z;have h2:=qD q;exact small_one (by omega) (by omega) (by omega) (by omega)
theorem Itr.new(w:Wn g fr L){h':Heap}{n:Nat}(i:Idle w.y.h h'){it li:Addr}{I:Ik}(far:∀b,ItS I it li b->w.y.h.objs.size<=b)(a:IkAt (w.y.to h' n) it li I):Itr w (w.idle i n) it li I:=⟨Le.idle i n,far,a,λb s z=>absurd (w.now.rel.lt b z) (Nat.not_lt.mpr (far b s))⟩
abbrev Turn(g:G)(te:Expr)(bs:List Stmt)(mt:V->Ab Fl):Prop:=∀{fr L} (w:Wn g fr L) {v u},VRel w.y v u->∀Q E (z:Fz flrel w Q E),mt v fr L Q E->wpAny M g.A (assign te g.env u) (λ_ rE=>wpAny M g.A (execs bs g.env) z.P z.X rE) z.X w.y.s
theorem o5{te:Expr}{bs:List Stmt}{m:V->Ab Unit}{n:Ab Fl}(h:∀{fr L} (w:Wn g fr L) {v u},VRel w.y v u->R Ur w (assign te g.env u) (m v))(k:∀{fr L} (w:Wn g fr L),R flrel w (execs bs g.env) n):Turn g te bs λv=>(m v).bind λ_=>n:=λw v u r Q E z q =>
 h w r _ _ (.mk (λ_ rE=>wpAny M g.A (execs bs g.env) z.P z.X rE) z.X ⟨λw' _ _ l _ q=>k w' _ _ (z.mv l) q,z.ex⟩) q
theorem iter_ok(hb:Bdy g){v:V}{u:Value}(r:VRel w.y v u)(z:Fz flrel w Q E){te:Expr}{bs:List Stmt}{mt:V->Ab Fl}(ht:Turn g te bs mt)(q:forW (·.2) (aU mt Q E) (λs=>Q .next s.1 s.2) v (fr,L)):
  wpAny M g.A (pyIter u) (λit ry=>af M g.A (.forLoop te it bs [] g.env) (dN g z.P z.X) ry) z.X w.y.s:=by
 exists w hb r z mt ht q,zG g,zF fr,zL L,aK Q,aK E,zv v,zV u,ze te,zL bs;have go:∀{h'} (i:Idle w.y.h h') {I:Ik} {it li:Addr},(∀b,ItS I it li b->w.y.h.objs.size<=b)->IkAt (w.y.to h' w.y.s.toks) it li I->(∀n i,I≠.enu n i)->Lp (·.2) (aU mt Q E) (λs=>Q .next s.1 s.2) I (fr,L)->af M g.A (.forLoop te (.ref it) bs [] g.env) (dN g z.P z.X) {w.y.s with heap:=h'} :=
  λ{h'} i {I it li} far a ne q=>oO hb z ht q (λn i e=>absurd e (ne n i)) (w.idle i w.y.s.toks) (Itr.new w i far a)
 cases v with
 | ref n =>
  have m:∃us,nU L (.ref n) us:=by cases q with|nil m=>exact⟨_,m⟩|cons m=>exact⟨_,m⟩
  obtain⟨us,m⟩:=m;refine bf w.now.rel m r λa ob ea e ⟨vs,j,eo,rs⟩=>lw<|wpAny_pyIter_list ⟨_,eo▸e,rfl,j,rfl⟩ ?_;exact go (Idle.push ..) (I:=.lst n 0) (li:=0) (λb s=>by cases s;exact qW _) ⟨a,ea,_,qK _ rfl,rfl,rfl⟩ (λ_ _=>nofun) q
 | rng lo hi =>
  obtain⟨a,rfl,_,_,_,e⟩:=r.now;refine lw<|wpAny_pyIter_range e (jd q.1) ?_;rw[rangeSize_nat];exact go (Idle.push ..) (I:=.rng lo (hi - lo).toNat) (li:=0) (λb s=>by cases s;exact qW _) (qK _ rfl) (λ_ _=>nofun) q.2
 | _=>exact q.elim
theorem snd_for(ht:aP t)(hi:aP it)(hb:aP b):aP (.for_ t it b p):=.ofS λ{g fr L} w k B Q E z q =>
 j5 (hi.val w (ae (a8 k)) _ _ (.mk (λu s=>wpAny M g.A (pyIter u) (λit ry=>af M g.A (.forLoop (xe t) it (xss b) [] g.env) (dN g z.P z.X) ry) z.X s) z.X ⟨λw' v u l r q=>iter_ok B r (z.mv l) (o5 (λ{fr L} w {v u} r=>ht.asg w (ae k) r) λw=>hb.stms w (a8 (a8 k)) B) q,z.ex⟩) q) ((form it).fold g.env)
theorem snd_forE(ht:aP ts)(hx:aP x)(hb:aP b):aP (.forE ts x b tp np cp p):=.ofS λ{g fr L} w k B Q E z q=>by
 have k2:=a8 (a8 k);refine j5 (iter:=.Call (.Name (nm 6) np) [xe x] [] cp) ?_ (λ_=>rfl);refine(?_:wpAny M g.A (do callWith cp (<-eval (.Name (nm 6) np) g.env) [] (backTo cp (starEach [xe x] g.env)) []) _ _ _);have ng:R VRel w (loadName g.env (nm 6)) (.ret (.ty 4)):=by
  have:=oJ (p:=np) w (k:=.glo) (i:=6) (a8 (a8 k2));unfold namW at this;rw[enu_ok] at this;exact this
 refine a0 (hH (ng (λv fr L=>v=.ty 4/\(wp g.d (.forE ts x b tp np cp p) g.hd).stm fr L Q E) E (.mk _ z.X ⟨λw' a u l r q=>?_,z.ex⟩) ⟨rfl,q⟩) (nm_dbg 6));cases q.1;cases r.now;refine iF (T:="enumerate") ?_ (dY x [] g.env) rfl;rw[show starEach [xe x] g.env=[(false,eval (xe x) g.env)] from dY x [] g.env];refine Calls.spliced_cons (hx.val w' (ae (a8 k)) _ _ (.mk _ z.X ⟨λ{ua rH} ro v u rA r q=>lw<|Calls.spliced_nil ?_,λro n e rA=>z.ex ro n e (l.trans rA)⟩) q.2);cases v with
 | ref n =>
  have m:∃us,nU rH (.ref n) us:=by cases q with|enil m=>exact⟨_,m⟩|econs m=>exact⟨_,m⟩
  obtain⟨us,m⟩:=m;refine bf ro.now.rel m r λa ob ea e ⟨vs,j,eo,rs⟩=>lw<|call_enumerate_1 (eo▸e) λh' he hi hz hk=>lw<|wpAny_pyIter_enum he ?_;have i:Idle ro.y.h h':=⟨hk,by rw[hz];exact qI ..⟩;exact oO B (z.mv (l.trans rA)) (te:=.Tuple (xl ts) 0 tp) (mt:=λv=>(iT (cQ ts) v).bind λvs=>((wp g.d ts g.hd).asgs vs).bind λ_=>(wp g.d b g.hd).stms)
   (o5 (te:=.Tuple (xl ts) 0 tp) (m:=λv=>(iT (cQ ts) v).bind (wp g.d ts g.hd).asgs) (λ{fr L} w {v u} r=>R.stand (p:=tp) (me ht (ae k) r)) λw=>hb.stms w (ae k2) B) q (λ_ _ _=>⟨_,_,_,rfl⟩) (ro.idle i ro.y.s.toks)
   (Itr.new (li:=ro.y.h.objs.size) ro i (λb s=>by cases s<;>first|exact Nat.le_succ _|exact qW _) ⟨a,_,ea,hi,he,Nat.ne_of_gt (Nat.lt_succ_self _)⟩)
 | _=>exact q.elim
end
end
section
theorem exm_all:T.cls.all (λp=>!p.2.isExc||T.cls.all (λq=>!q.2.isExc||mroIn KF p.1 (.ref q.1)==some (iv p.1 q.1)))=true:=by rfl'
theorem p7{C:Nat}(h:eW C=true):∃k,(C,k)∈T.cls/\k.isExc=true:=by
 unfold eW at h;cases e:look C T.cls with
 | none=>rw[e] at h;cases h
 | some k=>rw[e] at h;exact⟨k,dU e,h⟩
theorem or_f{a b:Bool}(h:(!a||b)=true)(e:a=true):b=true:=by subst e;exact h
theorem exc_mro(C D:Nat)(h:eW C=true)(h':eW D=true):mroIn KF C (.ref D)=some (iv C D):=by
 refine nn λno=>?_;obtain⟨k,m,z⟩:=p7 h;obtain⟨k',m',z'⟩:=p7 h';refine no ?_;exact eq_of_beq (or_f (List.all_eq_true.mp (or_f (List.all_eq_true.mp exm_all (C,k) m) z) (D,k') m') z')
section
variable {g:G} {fr fr':Fr} {L L':Hp} {w:Wn g fr L} {e:X} {p:Pos}
theorem jj{h:Heap}{a:Addr}{o:Obj}{C:Nat}(U:Up h)(e1:h.get? a=some o)(hc:o.cls=.ref C)(xC:eW C=true):
  Looks M h (typeOf (.ref a)) (.ref C)/\∀D,eW D=true->Looks M h (isSubtype (.ref C) (.ref D)) (iv C D) :=
 ⟨hc▸(Looks.ld e1).andThen .now,λD xD=>looks_mroIn U.kin (exc_mro C D xC xD)⟩
theorem raise_ok(he:aP e)(w:Wn g fr L)(k:kd g.env e=true):R flrel w (exec (.Raise (some (xe e)) none p) g.env) (bg g.hd .no ((wp g.d e g.hd).val.bind λv fr L _ E=>∃n C dd,v=.ref n/\(n,O.exc C dd)∈L/\E n fr L)):=by
 exists he w k,zG g,zF fr,zL L,zX e,zP p;intro Q E z q;cases hh:g.hd with
 | true=>rw[hh] at q;exact q.elim
 | false =>
  have q:((wp g.d e g.hd).val.bind λv fr L (_:Fl->Fr->Hp->Prop) E=>∃n C dd,v=.ref n/\(n,O.exc C dd)∈L/\E n fr L) fr L Q E:=by
   rw[hh] at q ⊢;exact q
  show wpAny M g.A (do standAt p;raiseStmt g.env (some (do let v <-eval (xe e) g.env;standAt p;pure v)) none) _ _ _;refine a0 (aj ?_);refine a0 (a0 (he.val w k _ _ (.mk _ z.X ⟨?_,z.ex⟩) q));intro s6 s5 rt v u l r q;refine a0 (aj (a7 ?_));refine nn λno=>?_;obtain⟨n,C,dd,ev,m,q⟩:=q;refine no ?_;subst ev;refine bf rt.now.rel m r λa ob ea e1 ⟨ad,xa,_,xC⟩=>?_;have X:=rt.now.rel.up.kin;refine fP xC λkc hk hx=>?_;have Z:=cF C kc hk;have hc:ob.cls=.ref C:=by cases xa;rfl
  have Lt:Looks M rt.y.h (isType (.ref a)) false:=by cases xa;exact(Looks.ld (part:=some headPart) e1).andThen .now
  have Lc:Looks M rt.y.h (isExcClass (.ref a)) false:=Lt.andThen .now;have L3:=(jj rt.now.rel.up e1 hc xC).1;have Li:Looks M rt.y.h (isInstance (.ref a) (.type "BaseException")) true:=L3.andThen (looks_mroIn X (Z.base hx));have L5:Looks M rt.y.h (typeOf (.ref C)) (.type "type"):=looks_typeIn X Z.typ;dsimp only;simp only[pure_bind];refine a0 (ac ?_);refine a0 (lw<|Lc.here ?_);refine a0 (lw<|Li.here ?_);refine a7 (a0 (lw<|Lt.here ?_));refine a0 ?_;refine a0 (lw<|L3.here (a0 (lw<|L5.here ?_)));exists (by decide),();refine a7 (a0 (aL rt (rt.now.rel.sub _ _ ea) ⟨ob,e1,xa⟩ λro s7 rA et rT=>lw<|wpAny_raiseNew_none (w.now.at'.hd hh) ?_));exact z.ex ro n a (l.trans rA) ⟨(congrFun et n).trans ea,C,s7,rT⟩ q
end
end
section
section
variable {g:G} {fr fr':Fr} {L L':Hp} {w:Wn g fr L} {e C:Addr} {ad:Option Addr} {b f:X} {p:Pos}
theorem Exc.weak{y:Y}{b:Bool}(x:Exc y e C ad b):Exc y e C ad false:=by
 obtain⟨ob,h,x⟩:=x;cases x with
 | mk vs t z h2 h1 hb ht=>exact⟨_,h,vs,t,z,h2,h1,nofun,ht⟩
theorem fj{α:Type}{what:String}{P:α->Shared->Prop}{X:Value->Shared->Prop}(w:Wn g fr L)(oe:w.y.own e)(x:Exc w.y e C ad true)(h:∀(w':Wn g fr L) ad,Le w w'->Exc w'.y e C ad false->X (.ref e) w'.y.s):wpAny M g.A (PySem.passOn what (.ref e) g.env:Sem α) P X w.y.s:=by
 refine x.field λvs t e1 h1 ht _=>a0 (lw<|wpAny_field e1 rfl h1 ?_);exists (by simpa using ht rfl);exact a0 (aL w oe x λw' ad' l _ x'=>gq (h w' ad' l x'.weak))
noncomputable abbrev gM(g:G)(e:Addr):G:=⟨g.d,g.A.mark (some (.ref e)),g.l,g.env,true⟩
theorem Now.mark{y:Y}(N:Now g fr L y)(oe:y.own e)(x:Exc y e C ad true):Now (gM g e) fr L y :=
 ⟨⟨N.at'.frames,N.at'.mine,nofun,N.at'.depth,N.at'.units,N.at'.fn,N.at'.glb,N.at'.blt⟩,N.rel,N.fr',⟨N.stk.fr,λv hv=>by cases hv;exact⟨e,C,ad,oe,x⟩⟩⟩
theorem Now.unmark{y:Y}(w:Wn g fr' L')(N:Now (gM g e) fr L y)(m:Mv (dH g.l) (some g.env.locals) w.y y):Now g fr L y:=⟨w.now.at',N.rel,N.fr',⟨N.stk.fr,λv hv=>by
  obtain⟨a,C,ad,q,x⟩:=w.now.stk.hn v hv;exact(m.exk a C ad true q x).elim λad' x'=>⟨a,C,ad',m.mono a q,x'⟩⟩⟩
theorem snd_fin(hb:aP b)(hf:aP f):aP (.fin b f p):=.ofS λ{g fr L} w k B Q E z q=>by
 obtain⟨x,r,rfl⟩:=gk (x:=f) (a8 (a8 k));have kf:=ae (a8 k);refine f7 (hb.stms w (ae k) B _ _ (.mk _ _ ⟨?_,?_⟩) q)
 .intro s6 s5 rt fl v l sG rV;have run:∀u,flrel rt.y fl u->wpAny M g.A (execs (xss (.cons x r)) g.env) (λg' s''=>match g' with|.next=>z.P u s''|g'=>z.P g' s'') (aH M g.A g.env (aO M g.A g.env z.X)) rt.y.s:=λu ru =>
   hf.stms rt kf B _ _ (.mk _ _ ⟨λro tO ub rA sC sd=>by
    cases tO with
    | next =>
     cases sC;refine z.ok ro fl u (l.trans rA) ?_ sd;cases fl with
     | next=>exact ru
     | ret v=>exact ru.elim λx h=>⟨x,h.1,h.2.mono rA.toYl⟩
    | ret v=>exact sC.elim λx h=>by cases h.1;exact z.ok ro (.ret v) (.ret x) (l.trans rA) ⟨x,rfl,h.2⟩ sd,λro n e rA x q=>z.noted B (l.trans rA) n e x q⟩) rV
  cases fl with
  | next=>cases sG;exact lw<|wpAny_execs_nil (run _ rfl)
  | ret v=>exact sG.elim λx h=>by cases h.1;exact run _ ⟨x,rfl,h.2⟩
 .intro s6 s5 rt n e l sK rV;obtain⟨en,C,ad,xe⟩:=sK;have oe:=rt.now.rel.sub _ _ en;refine br rt B oe xe λro s7 rA rT=>⟨nofun,br ro B (rA.mono _ oe) rT.weak λrF ti rG si=>aL rF (rG.mono _ (rA.mono _ oe)) si λrJ sY rM _ s9=>?_⟩;have l':=(rA.trans rG).trans rM;have sv:=l'.mono _ oe;refine hf.stms (g:=gM g e) ⟨rJ.y,rJ.now.mark sv s9⟩ kf ⟨B.top,B.frm⟩ _ _ (.mk _ _ ⟨λ{uc ud} rZ tP ue rQ tQ tj=>?_,λ_ _ _ _ _ q=>q.elim⟩) rV;cases tP with
  | ret v=>exact tj.elim
  | next =>
   cases tQ;obtain⟨sS,sL⟩:=rQ.exk _ _ _ _ sv s9;exact fj (g:=g) ⟨rZ.y,rZ.now.unmark rJ rQ⟩ (rQ.mono _ sv) sL λsr tR sy tT=>z.ex sr n e ((l.trans l').trans (Mv.trans rQ sy)) ⟨sy.th _ _ (rQ.th _ _ (l'.th _ _ en)),C,tR,tT⟩ tj
end
end
section
theorem cls_isT{h:Heap}{D:Addr}{cd:ClassData}(X:KF.In h)(e:clsIn KF D=some cd):Looks M h (isType (.ref D)) true:=by
 delta clsIn at e;revert e;generalize ho:KF.lookup D=r;intro e;cases r with
 | none=>cases e
 | some o =>
  obtain⟨a,b,d,f⟩:=o;cases d with
  | cls c=>exact(Looks.ld (part:=some headPart) (X _ _ ho)).andThen .now
  | _=>cases e
theorem gi{A:Around}{s:Shared}{e:Addr}{C D:Nat}{o:Obj}{Q:Bool->Shared->Prop}{E:Value->Shared->Prop}(U:Up s.heap)(ho:s.heap.get? e=some o)(hc:o.cls=.ref C)(xC:eW C=true)(xD:eW D=true)
  (h:Q (iv C D) s):wpAny M A (excMatches (.ref e) (.ref D)) Q E s:=fP xD λkc hk hx=>by
 have X:=U.kin;have Z:=cF D kc hk;have L1:Looks M s.heap (isInstance (.ref D) (.type "tuple")) false:=(looks_typeIn X Z.typ).andThen (Looks.of_pure tc_notTuple);have L2:Looks M s.heap (isExcClass (.ref D)) true:=by
  obtain⟨cd,hcd,_⟩:=Z.cd;have Lt:Looks M s.heap (isType (.ref D)) true:=cls_isT X hcd;exact Lt.andThen (looks_mroIn X (Z.base hx))
 obtain⟨L3,L4⟩:=jj U ho hc xC;refine a0 (lw<|L1.here ?_);simp only[Bool.false_eq_true,if_false,pure_bind,List.forIn_cons,List.forIn_nil,bind_assoc];refine a0 (lw<|L2.here ?_);simp only[Bool.not_true,Bool.false_eq_true,if_false,pure_bind];refine a0 (lw<|L3.here (a0 (lw<|(L4 D xD).here ?_)));cases q:iv C D with
 | true=>rw[q] at h;simp only[if_true,pure_bind];exact a7 h
 | false=>rw[q] at h;simp only[Bool.false_eq_true,if_false,pure_bind];exact a7 h
theorem q7{β:Type}(k j:Nat)(l:List (Nat×β))(v:β):look j (lC k l)=some v->Nat.beq k j=false/\look j l=some v:=by
 induction l with
 | nil=>exact nofun
 | cons p r ih =>
  obtain⟨i,u⟩:=p;intro h;have h:look j (match Nat.beq i k with|true=>lC k r|false=>(i,u)::lC k r)=some v:=h;refine(?_:Nat.beq k j=false/\(match Nat.beq i j with|true=>some u|false=>look j r)=some v);cases q:Nat.beq i k with
  | true =>
   rw[q] at h;obtain⟨h1,h2⟩:=ih h;refine(qH q).symm▸?_;refine(h1).symm▸?_;exact⟨rfl,h2⟩
  | false =>
   rw[q] at h;have h:(match Nat.beq i j with|true=>some u|false=>look j (lC k r))=some v:=h;cases z:Nat.beq i j with
   | true =>
    rw[z] at h;refine⟨Bool.eq_false_iff.mpr λw=>?_,h⟩;rw[qH z,qH w,Nat.beq_refl] at q;cases q
   | false=>rw[z] at h;exact ih h
theorem flrel.mono{y y':Y}{f:Fl}{fl:Flow}(m:Yl y y')(r:flrel y f fl):flrel y' f fl:=by
 cases f with
 | next=>exact r
 | ret v=>exact r.elim λx h=>⟨x,h.1,h.2.mono m⟩
section
variable {b D hx:X} {p hp:Pos}
theorem snd_exc{nw:Option Nat}(sb:aP b)(sD:aP D)(sh:aP hx):aP (.exc b D nw hx hp p):=.ofS λ{g fr L} w k B Q E z q=>by
 have k2:=a8 (a8 k);obtain⟨x,r,rfl⟩:=gk (x:=hx) (a8 (a8 k2));have hk:=ae k2;refine fV (sb.stms w (ae k) B _ _ (.mk _ _ ⟨?_,?_⟩) q)
 .intro s6 s5 rt f fl l sG rV;have:=z.ok rt f fl l sG rV;cases f with
  | next=>cases sG;exact lw<|wpAny_execs_nil this
  | ret v=>exact sG.elim λx h=>by cases h.1;exact this
 .intro s6 s5 rt n e l sK rV;obtain⟨en,uf,ug,uh⟩:=sK;obtain⟨C,dd,mL,rV⟩:=rV;have oe:=rt.now.rel.sub _ _ en;refine eN rt.now.rel mL en λob eo ⟨ad,xe,_,xC⟩=>?_;refine br rt B oe ⟨ob,eo,xe⟩ λro s7 rA rT=>aL ro (rA.mono _ oe) rT λrF ti rG _ si=>eh (dx ?_) nofun;have l':=rA.trans rG;have t0:=l'.mono _ oe;refine sD.val (g:=gM g e) ⟨rF.y,rF.now.mark t0 si⟩ (ae (a8 k)) _ _ (.mk _ _ ⟨λ{ui uj} rJ v u rM tU sM=>?_,λ_ _ _ _ _ q=>q.elim⟩) rV;cases v with
  | top D' =>
   cases tU.now;obtain⟨sY,s9⟩:=rM.exk _ _ _ _ t0 si;have sv:=rM.mono _ t0;have tm:=rM.th _ _ (l'.th _ _ en);have t3:=(l.trans l').trans rM;obtain⟨o4,e4,x4'⟩:=id s9;have q:=sM.2;refine gi rJ.now.rel.up e4 (by cases x4';rfl) xC sM.1 ?_;cases hq:iv C D' with
   | false =>
    rw[hq] at q;exact eL (fj (g:=g) ⟨rJ.y,rJ.now.unmark rF rM⟩ sv s9 λrZ sS rQ sL=>z.ex rZ n e (t3.trans rQ) ⟨rQ.th _ _ tm,C,sS,sL⟩ q)
   | true =>
    rw[hq] at q;cases nw with
    | none =>
     refine d5 (aL (g:=gM g e) rJ sv s9 λrZ sS rQ _ sL=>?_);have h:=sh.stms (g:=gM g e) rZ hk ⟨B.top,B.frm⟩ Q lQ (.mk z.P (aH M (gM g e).A g.env λx ry=>aO M g.A g.env z.X x ry) ⟨λsr f fl sy tV t6=>z.ok ⟨sr.y,sr.now.unmark rF (Mv.trans rM (Mv.trans rQ sy))⟩ f fl (Mv.trans t3 (Mv.trans rQ sy)) tV t6,λ_ _ _ _ _ q=>q.elim⟩) q;exact h
    | some i =>
     have hl:bO (g.env.kindOf (nm i))=true:=ae (a8 k2);refine cI (aL (g:=gM g e) rJ sv s9 λrZ sS rQ _ sL=>cm (g:=gM g e) (w:=rZ) (v:=.ref n) hl (λy' k=>⟨e,rfl,k.th _ _ (rQ.th _ _ tm)⟩) _ lQ (.mk _ _ ⟨λsr _ _ sy _ t6=>sh.stms (g:=gM g e) sr hk ⟨B.top,B.frm⟩ _ lQ (.mk _ _ ⟨λ{tn tW} t7 f fl tX tY tZ=>?_,λ_ _ _ _ _ q=>q.elim⟩) t6,λ_ _ _ _ _ q=>q.elim⟩) q);have tv:=Mv.trans rQ (Mv.trans sy tX);have sT:Now g tn tW t7.y:=t7.now.unmark rF (Mv.trans rM tv);obtain⟨m,hg,hm⟩:=sT.fr'.loc;refine lw<|wpAny_nameGoes_keeps (qD hl) hg (by rw[sT.at'.fn];rfl) λuk ul t_ tw=>?_;exact(z.mv (w':=⟨t7.y,sT⟩) (Mv.trans t3 tv)).locals (lc:=lC i tn.loc) hg t_ tw (λyl j v ej=>by
      obtain⟨hj,ej⟩:=q7 i j _ v ej;obtain⟨z,hz,rz⟩:=hm j v ej;exact⟨z,(if_neg (Ne.symm (kI hj))).trans hz,rz.mono yl⟩) (flrel.mono (.side (S:=(·=g.env.locals)) (λ_ e=>e▸sT.fr'.fresh) (gO hg tw) (λ_ _ e=>e) λ_ e=>e) tY) tZ
  | _=>exact sM.elim
theorem snd_s1{k:S1}{e:X}(he:aP e):aP (.s1 k e p):=.ofS λw h B=>by
 cases k with
 | expr=>exact s_expr he (gy (a8 h)) w (ae h)
 | ret=>exact s_ret he (a8 h) w (ae h)
 | raise=>exact raise_ok he w (ae h)
end
end
theorem eK{elt target iter:Expr}{ifs:List Expr}{scope:Scope}{pos:Pos}{it acc:Value}{env:Env}{A:Around}{R:Result->Shared->Prop}{s:Shared}{X:Value->Shared->Prop}(hX:X=aH M A env λe s'=>R (.error e) s')
  (h:wpAny M A (pyNext it) (λr rj=>match r with
   | none=>R (.ok .next) rj
   | some v=>wpAny M A (assign target env v) (λ_ ry =>
     wpAny M A (forIn ifs true λc r=>if r=true then do let ok <-isTrue c env (eval c env);pure (ForInStep.yield ok) else pure (ForInStep.yield r)) (λok rE =>
      if ok=true then wpAny M A (eval elt env) (λx rI =>
       wpAny M A (call (.builtin "list.append") [acc,x]) (λ_ sk=>af M A (.compLoop (.ListComp elt [⟨target,iter,ifs,0⟩] scope pos) 0 it acc env) R sk) X rI) X rE
      else af M A (.compLoop (.ListComp elt [⟨target,iter,ifs,0⟩] scope pos) 0 it acc env) R rE) X ry) X rj) X s)
  (ht:∀v,letOwnedTupleGo target it v=pure ():=by intro _;rfl):af M A (.compLoop (.ListComp elt [⟨target,iter,ifs,0⟩] scope pos) 0 it acc env) R s:=by
 exists s hX h ht,ze elt,ze target,ze iter,zL ifs,zsc scope,zP pos,zV it,zV acc,zQ env,zA A,aN R,aN X;subst hX;refine aq ?_;refine(?_:wpAny _ A ((compTurn (.ListComp elt [⟨target,iter,ifs,0⟩] scope pos) 0 it acc env).onRaise (λx=>do noteFrame x env;theTreesLotGoes x)) _ _ s);refine bE ?_;rw[compTurn_list];refine a0 (aj (seq h λr rj z=>?_));cases r with
 | none=>exact a7 z
 | some v =>
  refine a0 (bv (ht v) (seq z λ_ ry z=>seq z λok rE z=>?_));cases ok with
  | false=>exact a7 ⟨rfl,z⟩
  | true=>exact a0 (seq z λx rI z=>seq z λ_ sk z=>a7 (a7 ⟨rfl,z⟩))
set_option tactic.hygienic true in
theorem jZ{scope:Scope}{env:Env}(h:∀n,(n,NameKind.free)∈scope.names->∃a,env.cells.lookup n=some a):
  ∃cl,closureFor scope env=pure cl/\∀n,(n,NameKind.free)∈scope.names->cl.lookup n=env.cells.lookup n:=by
 revert h;revert scope env;refine @al2 _ _ zsc zQ ?P ((?f:∀a b,?P a b) _ _);intro scope env h;have go:∀(l:List (Str×NameKind)) (cs:List (Str×Addr)),(∀n,(n,NameKind.free)∈l->∃a,env.cells.lookup n=some a)->(∀n a,cs.lookup n=some a->env.cells.lookup n=some a) ->
   ∃cl,(forIn (m:=Sem) l cs λx r=>match x with
    | (name,kind)=>if(kind==NameKind.free)=true then do let a <-cellOf env name;pure (ForInStep.yield ((name,a)::r)) else pure (ForInStep.yield r))=pure cl /\
    (∀n,(n,NameKind.free)∈l\/(cs.lookup n).isSome=true->(cl.lookup n).isSome=true)/\(∀n a,cl.lookup n=some a->env.cells.lookup n=some a):=by
  intro l
  induction l with
  | nil=>intro cs _ hc;exact⟨cs,rfl,λn hn=>hn.elim nofun id,hc⟩
  | cons x l ih =>
   intro cs hl hc;obtain⟨name,kind⟩:=x;rw[List.forIn_cons];dsimp only;by_cases hk:(kind==.free)=true
   .rw[if_pos hk];have hk:=eq_of_beq hk;subst hk;obtain⟨a,ha⟩:=hl name (.head _);rw[show cellOf env name=pure a by unfold cellOf;rw[ha]];obtain⟨cl,h1,h2,h3⟩:=ih ((name,a)::cs) (λn hn=>hl n (.tail _ hn)) λn b q=>by
     rw[List.lookup] at q;split at q
     .rename_i z;cases q;rw[eq_of_beq z];exact ha
     .exact hc n b q
    refine⟨cl,h1,λn hn=>h2 n ?_,h3⟩;by_cases z:n=name
    .exact .inr (by rw[z,List.lookup,beq_self_eq_true];rfl)
    .refine hn.imp (λhn=>(List.mem_cons.mp hn).elim (λw=>by cases w;exact absurd rfl z) id) λhn=>?_;rw[List.lookup,beq_eq_false_iff_ne.mpr z];exact hn
   .rw[if_neg hk];obtain⟨cl,h1,h2,h3⟩:=ih cs (λn hn=>hl n (.tail _ hn)) hc;exact⟨cl,h1,λn hn=>h2 n (hn.imp (λhn=>(List.mem_cons.mp hn).elim (λw=>by cases w;exact absurd rfl hk) id) id),h3⟩
 obtain⟨cl,h1,h2,h3⟩:=go scope.names [] h nofun;refine⟨cl,?_,λn hn=>?_⟩
 .unfold closureFor;refine(?_:(forIn (m:=Sem) scope.names [] _>>=λr=>pure r)=_);rw[h1];rfl
 .obtain⟨b,hb⟩:=Option.isSome_iff_exists.mp (h2 n (.inl hn));rw[hb,h3 _ _ hb]
theorem dC:∀{sc:List (Nat×NameKind)} {n:Str} {k:NameKind},(n,k)∈f_ sc->∃i,n=nm i/\(i,k)∈sc
 | (j,k')::r,n,k,h=>by
  rcases List.mem_cons.mp h with h|h
  .cases h;exact⟨j,rfl,.head _⟩
  .obtain⟨i,h1,h2⟩:=dC (sc:=r) h;exact⟨i,h1,.tail _ h2⟩
theorem nm_beq(i j:Nat):(nm i==nm j)=Nat.beq j i:=by
 cases q:Nat.beq j i with
 | true=>rw[qH q,beq_self_eq_true]
 | false=>exact beq_eq_false_iff_ne.mpr (kI q).symm
theorem cn(i:Nat):∀sc:List (Nat×NameKind),(f_ sc).lookup (nm i)=look i sc
 | []=>rfl
 | (j,k)::r=>by
  refine(?_:(match nm i==nm j with|true=>some k|false=>(f_ r).lookup (nm i))=(match Nat.beq j i with|true=>some k|false=>look i r));rw[nm_beq,cn i r]
theorem cR{κ:Nat->Option NameKind}:∀{sc:List (Nat×NameKind)} {i:Nat} {k:NameKind},my κ sc=true->(i,k)∈sc->look i sc=some k/\(k=.local\/k=.globalImplicit\/(k=.free/\cB (κ i)=true))
 | (j,k')::r,i,k,h,hm=>by
  have h1:=ae h;have h2:=ae (a8 h);refine(?_:(match Nat.beq j i with|true=>some k'|false=>look i r)=_/\_);rcases List.mem_cons.mp hm with hm|hm
  .cases hm;rw[Nat.beq_refl];refine⟨rfl,?_⟩;cases k' with
   | «local»=>exact .inl rfl
   | globalImplicit=>exact .inr (.inl rfl)
   | free=>exact .inr (.inr ⟨rfl,h1⟩)
   | _=>cases h1
  .obtain⟨g1,g2⟩:=cR (a8 (a8 h)) hm;refine⟨?_,g2⟩;cases q:Nat.beq j i with
   | true=>rw[qH q,g1] at h2;cases h2
   | false=>exact g1
theorem ia{κ:Type}:∀{l:List (Nat×κ)} {i:Nat} {k:κ},look i l=some k->(i,k)∈l
 | (j,k')::r,i,k,h=>by
  have h:(match(generalizing:=false) Nat.beq j i with|true=>some k'|false=>look i r)=some k:=h;cases q:Nat.beq j i with
  | true=>rw[q] at h;cases h;rw[qH q];exact .head _
  | false=>rw[q] at h;exact .tail _ (ia h)
theorem ci{env:Env}(hf:env.scope.kind=.function)(s:Str):∀l:List (Str×NameKind),(l.map λ(n,k)=>if(k==NameKind.free&&env.scope.kind==.function&&env.kindOf n==some .cell) then(n,NameKind.cell) else(n,k)).lookup s=gG (l.lookup s) (env.kindOf s)
 | []=>rfl
 | (j,k)::r=>by
  have ih:=ci hf s r;rw[hf] at ih ⊢;show List.lookup s ((if(k==NameKind.free&&true&&env.kindOf j==some .cell)=true then(j,NameKind.cell) else(j,k))::_)=gG (match s==j with|true=>some k|false=>r.lookup s) _;have e:∀(b:Bool) (x:NameKind) (l:List (Str×NameKind)),List.lookup s ((if b=true then(j,x) else(j,k))::l)=match s==j with|true=>some (if b=true then x else k)|false=>l.lookup s:=λb x l=>by cases b<;>rfl
  rw[e];cases q:s==j with
  | false=>exact ih
  | true =>
   rw[eq_of_beq q];show some (if(k==NameKind.free&&true&&env.kindOf j==some .cell)=true then NameKind.cell else k)=gG (some k) _;cases k<;>first|rfl|(cases env.kindOf j with
    | none=>rfl
    | some z=>cases z<;>rfl)
section
noncomputable abbrev gV(sc:List (Nat×NameKind))(cl:List (Str×Addr))(C:Addr)(g:G):G:={g with env:=compEnvC (b5 sc) cl C g.env}
noncomputable abbrev pF(g:G)(sc:List (Nat×NameKind))(cl:List (Str×Addr)):Prop:=∀n,(n,NameKind.free)∈f_ sc->cl.lookup n=g.env.cells.lookup n
structure Dc {g:G} {rX fr:Fr} {rY L:Hp} (w₀:Wn g rX rY) (w:Wn g fr L) (D C:Addr) (us:List V):Prop where
 farD:w₀.y.h.objs.size<=D
 farC:w₀.y.h.objs.size<=C
 noD:¬w.y.own D
 noC:¬w.y.own C
 ne:D≠C
 lst:∃vs j,w.y.h.get? D=some (aM vs j)/\VsRel w.y us vs
 ns:∃m,w.y.h.Ns C m
section
variable {g:G} {fr rX fr':Fr} {L rY L':Hp} {w₀:Wn g rX rY} {w:Wn g fr L} {w':Wn g fr' L'} {it li D C:Addr} {I:Ik} {us:List V} {sc:List (Nat×NameKind)} {cl:List (Str×Addr)} {e ifs:X} {t:Nat}
theorem oz{h:Heap}{a:Addr}{m:Str->Option Value}(n:h.Ns a m):∃o,h.get? a=some o/\bS o=false:=by
 refine nn λno=>?_;obtain⟨o,es,ep,e,d,_⟩:=n;refine no ?_;refine⟨o,e,?_⟩;show(match o.cls,o.data with|.type n,.seq _ _=>n=="tuple" | .type n,.fields _=>n=="range"||n=="code" | _,_=>false)=false;refine(d).symm▸?_;cases o.cls<;>rfl
theorem Dc.keep(A:Dc w₀ w D C us)(yl:Yl w.y w'.y)(k:∀b o,b=D\/b=C->w.y.h.get? b=some o->w'.y.h.get? b=some o)(no:∀b,b=D\/b=C->¬w'.y.own b):Dc w₀ w' D C us :=
 ⟨A.farD,A.farC,no D (.inl rfl),no C (.inr rfl),A.ne,A.lst.elim λvs q=>q.elim λj q=>⟨vs,j,k D _ (.inl rfl) q.1,q.2.mono yl⟩,A.ns.elim λm n=>⟨m,jH n λo e=>⟨o.slots,k C o (.inr rfl) e⟩⟩⟩
theorem Dc.turn(A:Dc w₀ w D C us)(T:Tn (ItS I it li) w.y w'.y)(sep:∀b,ItS I it li b->b≠D/\b≠C):Dc w₀ w' D C us :=
 A.keep T.yl (λb o h=>T.keep b o λz=>h.elim (sep b z).1 (sep b z).2) λb h=>by rw[T.own];exact h.elim (λz=>z▸A.noD) λz=>z▸A.noC
theorem Now.comp{y:Y}(N:Now g fr L y)(hsc:my (κs g.env) sc=true)(hcl:pF g sc cl)(hC:¬y.own C)(hB:Bs.objs.size<=C)(hn:∃m,y.h.Ns C m):Now (gV sc cl C g) ⟨[],fr.cel⟩ L y:=by
 exists N hsc hcl hC hB hn,zG g,zF fr,zL L,zN C,zL sc,zL cl,zY y;refine⟨⟨N.at'.frames,N.at'.mine,N.at'.hd,N.at'.depth,N.at'.units,rfl,N.at'.glb,N.at'.blt⟩,N.rel,⟨hn.elim λm n=>⟨m,n,λi v e=>nomatch e⟩,λi j e q=>?_,hC,hB⟩,N.stk⟩;have q:cB (((f_ sc).map λ(n,k)=>if(k==NameKind.free&&g.env.scope.kind==.function&&g.env.kindOf n==some .cell) then(n,NameKind.cell) else(n,k)).lookup (nm i))=true:=q;rw[ci N.at'.fn,cn] at q;cases z:look i sc with
 | none=>rw[z] at q;cases q
 | some k' =>
  have q:=(z)▸q;rcases(cR hsc (ia z)).2 with rfl|rfl|⟨rfl,g⟩
  .cases q
  .cases q
  .exact(N.fr'.cel i j e g).elim λa h=>⟨a,(hcl _ (cz (by rw[cn];exact z))).trans h.1,h.2⟩
theorem Now.back{y y':Y}(N:Now g fr L y)(m:Mv (dH g.l) (some C) y y')(hC:C∉dH g.l/\C≠g.env.locals)(R:Rel y' L'):Now g fr L' y' :=
 N.go ⟨m.toYl,m.mono,m.exk,λb o e n _=>m.notown e n,λb o e n z h=>(Classical.em (b∈dH g.l)).elim (λf=>m.slots b f (λz=>hC.1 (qJ z▸f)) n o e) λf=>⟨o.slots,m.keep b o z e n f λz=>h.elim (λq=>hC.2 ((qJ z).symm.trans q)) f⟩⟩ R
theorem Mv.thn{F:List Addr}{x:Option Addr}{y₀ y y':Y}(a:Mv F x y₀ y)(b:Mv F (some C) y y')(hC:y₀.h.objs.size<=C):Mv F x y₀ y' :=
 have ne:∀{p o},y₀.h.get? p=some o->some p≠some C:=λe z=>absurd (qZ e) (Nat.not_lt.mpr (qJ z▸hC))
 ⟨a.toYl.trans b.toYl,b.os.trans a.os,b.gens.trans a.gens,qC a.size b.size,λp q=>b.mono p (a.mono p q),λp q=>(b.fresh p q).elim (a.fresh p) λz=>.inr (qC a.size z),λp C ad t oa q=>(a.exk p C ad t oa q).elim λ_ q=>b.exk p C _ t (a.mono p oa) q,λp o z e n f t=>b.keep p o z (a.keep p o z e n f t) (a.notown e n) f (ne e),λp f t n o e=>(a.slots p f t n o e).elim λsl e'=>b.slots p f (ne e) (a.notown e n) {o with slots:=sl} e'⟩
theorem ifs_all(env:Env):∀l:List Expr,l.length<=1->(forIn l true λc r=>if r=true then do let ok <-isTrue c env (eval c env);Pure.pure (ForInStep.yield ok) else Pure.pure (ForInStep.yield r):Sem Bool)=allTrue .And l env
 | [],_=>rfl
 | [x],_=>by
  rw[List.forIn_cons,if_pos rfl,bind_assoc];refine qF (isTrue x env (eval x env)>>=·) (funext λb=>?_);cases b<;>rfl
 | _::_::_,h=>absurd (Nat.le_of_succ_le_succ h) (Nat.not_succ_le_zero _)
theorem Dc.back(A:Dc w₀ w D C us)(w':Wn (gV sc cl C g) fr' L')(m:Mv (dH g.l) (some C) w.y w'.y)(N:Now g fr L' w'.y):Dc w₀ (⟨w'.y,N⟩:Wn g fr L') D C us :=
 ⟨A.farD,A.farC,A.lst.elim λvs q=>q.elim λj q=>m.notown q.1 A.noD,A.ns.elim λn h=>(oz h).elim λo q=>m.notown q.1 A.noC,A.ne,A.lst.elim λvs q=>q.elim λj q=>⟨vs,j,m.keep D _ (qC w₀.now.rel.up.size A.farD) q.1 A.noD (Wn.far A.farD).1 λz=>A.ne (qJ z),q.2.mono m.toYl⟩,w'.now.fr'.loc.elim λn h=>⟨n,h.1⟩⟩
theorem Itr.back(J:Itr w₀ w it li I)(w':Wn (gV sc cl C g) fr' L')(m:Mv (dH g.l) (some C) w.y w'.y)(N:Now g fr L' w'.y)(hC:w₀.y.h.objs.size<=C)(sep:∀b,ItS I it li b->b≠D/\b≠C):Itr w₀ (⟨w'.y,N⟩:Wn g fr L') it li I :=
 J.mv m (Mv.thn J.le m hC) λb s z=>(sep b s).2 (qJ z)
theorem qj(he:aP e)(hi:aP ifs)(k1:kd (gV sc cl C g).env e=true)(k2:kd (gV sc cl C g).env ifs=true)(hl:(xl ifs).length<=1)(kt:bO (look t sc)=true)(hsc:my (κs g.env) sc=true)(hcl:pF g sc cl){tp pos:Pos}{itE:Expr}{R':Result->Shared->Prop}{X:Value->Shared->Prop}{v:V}{u:Value}{K:Sc->Prop}
  (w:Wn g fr L) (J:Itr w₀ w it li I) (A:Dc w₀ w D C us) (sep:∀b,ItS I it li b->b≠D/\b≠C) (rv:VRel w.y v u) (q:iA ((wp g.d ifs g.hd).tB true) (wp g.d e g.hd).val t fr.cel v (us,L) K)
  (ih:∀{us L},K (us,L)->∀w:Wn g fr L,Itr w₀ w it li I->Dc w₀ w D C us->af M g.A (.compLoop (.ListComp (xe e) [⟨.Name (nm t) tp,itE,xl ifs,0⟩] (b5 sc) pos) 0 (.ref it) (.ref D) (gV sc cl C g).env) R' w.y.s) :
  wpAny M g.A (assign (.Name (nm t) tp) (gV sc cl C g).env u) (λ_ ry =>
   wpAny M g.A (forIn (xl ifs) true λx r=>if r=true then do let ok <-isTrue x (gV sc cl C g).env (eval x (gV sc cl C g).env);pure (ForInStep.yield ok) else pure (ForInStep.yield r)) (λok rE =>
    if ok=true then wpAny M g.A (eval (xe e) (gV sc cl C g).env) (λx rI=>wpAny M g.A (call (.builtin "list.append") [.ref D,x])
     (λ_ sk=>af M g.A (.compLoop (.ListComp (xe e) [⟨.Name (nm t) tp,itE,xl ifs,0⟩] (b5 sc) pos) 0 (.ref it) (.ref D) (gV sc cl C g).env) R' sk) X rI) X rE
    else af M g.A (.compLoop (.ListComp (xe e) [⟨.Name (nm t) tp,itE,xl ifs,0⟩] (b5 sc) pos) 0 (.ref it) (.ref D) (gV sc cl C g).env) R' rE) X ry) X w.y.s:=by
 exists rX rY w₀ li I he hi k1 k2 hl kt hsc hcl pos itE R' v u w J A sep rv q ih,zG g,zF fr,zL L,zN it,zN D,zN C,zL us,zL sc,zL cl,zX e,zX ifs,zN t,zP tp,aN X,zp1 K;have fC:=Wn.far A.farC;have kt':bO ((gV sc cl C g).env.kindOf (nm t))=true:=by
  show bO (((f_ sc).map λ(n,k)=>if(k==NameKind.free&&g.env.scope.kind==.function&&g.env.kindOf n==some .cell) then(n,NameKind.cell) else(n,k)).lookup (nm t))=true;rw[ci w.now.at'.fn,cn,qD kt];rfl
 have back:∀{fr' L'} (w':Wn (gV sc cl C g) fr' L'),Mv (dH g.l) (some C) w.y w'.y->Now g fr L' w'.y:=λw' m=>w.now.back m fC w'.now.rel;refine bJ (cm (g:=gV sc cl C g) (w:=(⟨w.y,w.now.comp hsc hcl A.noC (qC w₀.now.rel.up.size A.farC) A.ns⟩:Wn (gV sc cl C g) ⟨[],fr.cel⟩ L)) kt' rv
  (λ_ fr L=>(wp g.d ifs g.hd).tB true fr L (λb fr L=>If b ((wp g.d e g.hd).val fr L (λw _ L=>K (us++[w],L)) lQ) (K (us,L))) lQ) lQ (.mk _ X ⟨λrt _ _ l₁ _ rV=>?_,λ_ _ _ _ _ q=>q.elim⟩) q.2)
 refine(ifs_all _ _ hl).symm▸?_;refine hi.tB true rt k2 _ _ (.mk _ X ⟨λro b b' rA sC sd=>?_,λ_ _ _ _ _ q=>q.elim⟩) rV;cases sC;have sU:Mv (dH g.l) (some C) w.y ro.y:=Mv.trans l₁ rA;cases b with
 | false=>exact ih sd ⟨ro.y,back ro sU⟩ (J.back ro sU _ A.farC sep) (A.back ro sU _)
 | true =>
  refine he.val ro k1 _ _ (.mk _ X ⟨λrF x x' rG u0 t8=>?_,λ_ _ _ _ _ q=>q.elim⟩) sd;have sN:=Mv.trans sU rG;have t9:=J.back rF sN (back rF sN) A.farC sep;have sH:=A.back rF sN (back rF sN);refine nn λno=>?_;obtain⟨vs,j,eD,rD⟩:=sH.lst;refine no ?_;refine jq eD (rD.len▸q.1) λh' k' m' sb ho=>?_;have i:Side (·=D) rF.y.h h':=⟨λb o ne e=>(sb.2 b ne).trans e,qU sb.1.symm,λb o z e=>by cases z;cases eD.symm.trans e;rfl⟩;refine nn λno=>?_;obtain⟨w',e',l'⟩:=Wn.side (S:=(·=D)) (w:=⟨rF.y,back rF sN⟩) w₀ t9.le k' (λ_ z=>z▸A.farD) (λ_ z=>z▸sH.noD) i;refine no ?_;have yl:Yl rF.y w'.y:=e'▸Yl.side (S:=(·=D)) (λ_ z=>z▸sH.noD) i (λ_ _ e=>e) λ_ e=>e;have kp:∀b o,b≠D->rF.y.h.get? b=some o->w'.y.h.get? b=some o:=λb o ne e=>by rw[e'];exact i.keep b o ne e
  have no:∀{b},¬rF.y.own b->¬w'.y.own b:=λn=>by rw[e'];exact n
  have:=ih t8 w' (t9.keep l' yl (λb o s=>kp b o (sep b s).1) λb s=>no (t9.no b s)) ⟨A.farD,A.farC,no sH.noD,no sH.noC,A.ne,⟨_,m',by rw[e'];exact ho,(rD.mono yl).app (.cons (u0.mono yl) .nil)⟩,sH.ns.elim λn h=>⟨n,jH h λo e=>⟨o.slots,kp C o A.ne.symm e⟩⟩⟩;rw[e'] at this;exact this
theorem qk(he:aP e)(hi:aP ifs)(k1:kd (gV sc cl C g).env e=true)(k2:kd (gV sc cl C g).env ifs=true)(hl:(xl ifs).length<=1)(kt:bO (look t sc)=true)(hsc:my (κs g.env) sc=true)(hcl:pF g sc cl){tp pos:Pos}{itE:Expr}{R':Result->Shared->Prop}{done:Sc->Prop}
  (fin:∀{us L} (w:Wn g fr L),Le w₀ w->Dc w₀ w D C us->done (us,L)->R' (.ok .next) w.y.s) {s:Sc} (h:Lp (·.2) (iA ((wp g.d ifs g.hd).tB true) (wp g.d e g.hd).val t fr.cel) done I s) :
  (∀n i,I≠.enu n i)->(∀b,ItS I it li b->b≠D/\b≠C)->∀(w:Wn g fr s.2),Itr w₀ w it li I->Dc w₀ w D C s.1->af M g.A (.compLoop (.ListComp (xe e) [⟨.Name (nm t) tp,itE,xl ifs,0⟩] (b5 sc) pos) 0 (.ref it) (.ref D) (gV sc cl C g).env) R' w.y.s:=by
 have stop:∀{I us} {s:Sc} (w:Wn g fr s.2),Itr w₀ w it li I->Dc w₀ w D C s.1->(∀b,ItS I it li b->b≠D/\b≠C)->En us I->qy s.2 us I->done s->af M g.A (.compLoop (.ListComp (xe e) [⟨.Name (nm t) tp,itE,xl ifs,0⟩] (b5 sc) pos) 0 (.ref it) (.ref D) (gV sc cl C g).env) R' w.y.s:=λw J A sep x m q =>
  eK rfl (o7 J x m λw' l T=>fin w' l (A.turn T sep) q)
 have step:∀{I I' us} {a:V} {s:Sc} {N:Sc->Prop} (w:Wn g fr s.2),(∀n i,I≠.enu n i)->(∀b,ItS I it li b->b≠D/\b≠C)->(∀b,ItS I' it li b->b≠D/\b≠C)->Itr w₀ w it li I->Dc w₀ w D C s.1->Nx us I a I'->qy s.2 us I->iA ((wp g.d ifs g.hd).tB true) (wp g.d e g.hd).val t fr.cel a s N ->
   (∀s,N s->∀(w:Wn g fr s.2),Itr w₀ w it li I'->Dc w₀ w D C s.1->af M g.A (.compLoop (.ListComp (xe e) [⟨.Name (nm t) tp,itE,xl ifs,0⟩] (b5 sc) pos) 0 (.ref it) (.ref D) (gV sc cl C g).env) R' w.y.s)->af M g.A (.compLoop (.ListComp (xe e) [⟨.Name (nm t) tp,itE,xl ifs,0⟩] (b5 sc) pos) 0 (.ref it) (.ref D) (gV sc cl C g).env) R' w.y.s:=λw ne sep sep' J A x m q ih =>
  eK rfl (oF J x m (λw' v J' T rv=>qj he hi k1 k2 hl kt hsc hcl w' J' (A.turn T sep) sep' rv q λ{us L} n w=>ih (us,L) n w) (λv s p h=>h) λn i e=>absurd e (ne n i))
 induction h with
 | nil m h q=>exact λ_ sep w J A=>stop w J A sep (.lst _ _ h) m q
 | rnil q=>exact λ_ sep w J A=>stop (us:=[]) w J A sep (.rng _) trivial q
 | enil m h q=>exact λne=>absurd rfl (ne _ _)
 | cons m h q k ih=>exact λne sep w J A=>step w ne sep (λb s=>by cases s;exact sep _ (.it ..)) J A (.lst _ _ _ h) m q λs n w J=>ih s n nofun (λb s=>by cases s;exact sep _ (.it ..)) w J
 | rcons q k ih=>exact λne sep w J A=>step (us:=[]) w ne sep (λb s=>by cases s;exact sep _ (.it ..)) J A (.rng _ _) trivial q λs n w J=>ih s n nofun (λb s=>by cases s;exact sep _ (.it ..)) w J
 | econs m h q k ih=>exact λne=>absurd rfl (ne _ _)
end
end
section
theorem iC{cs:List (Nat×Hd)}:∀{sc:List (Nat×NameKind)} {i:Nat},iD cs sc=true->(i,NameKind.free)∈sc->∃j,look i cs=some j
 | (k,kk)::r,i,h,hm=>by
  rcases List.mem_cons.mp hm with hm|hm
  .cases hm;exact Option.isSome_iff_exists.mp (ae h)
  .refine iC ?_ hm;cases kk<;>first|exact h|exact a8 h
theorem xl_len(x:X):(xl x).length=cQ x:=X.view (C:=λx=>(xl x).length=cQ x) rfl (λ_ _ ih=>qF (·+1) ih) (λx o=>by rw[o.lst,o.len];rfl) x
section
variable {g:G} {fr fr':Fr} {L L':Hp} {Q:V->Kn} {E:Hd->Kn} {sc:List (Nat×NameKind)} {cl:List (Str×Addr)} {e ifs it:X} {t:Nat} {tp p pos:Pos} {use:Option (Value->Sem Unit)} {P' X:Value->Shared->Prop}
theorem kd_in(hf:g.env.scope.kind=.function){C:Addr}{x:Mine.X}(k:knd (cL g.env.code) (λs=>gG ((f_ sc).lookup s) (g.env.kindOf s)) (λi=>gG (look i sc) (κs g.env i)) x=true):kd (gV sc cl C g).env x=true:=by
 have ek:(gV sc cl C g).env.kindOf=λs=>gG ((f_ sc).lookup s) (g.env.kindOf s):=funext λs=>ci hf s _;show knd (cL g.env.code) (gV sc cl C g).env.kindOf (λi=>(gV sc cl C g).env.kindOf (nm i)) x=true;refine(ek).symm▸?_;refine(show(λi=>gG ((f_ sc).lookup (nm i)) (g.env.kindOf (nm i)))=λi=>gG (look i sc) (κs g.env i) from funext λi=>by rw[cn]).symm▸?_;exact k
theorem pa(he:aP e)(hi:aP ifs)(k:kd g.env (.comp e t it ifs tp sc p)=true)(hcl:pF g sc cl)(w:Wn g fr L){io:Obj}{n:Nat}{I:Ik}(hfr:io.isFreed=false)(hs:∀b,ItS I w.y.h.objs.size 0 b->b=w.y.h.objs.size)(ne:∀n i,I≠.enu n i)
  (ik:∀y',y'.θ=w.y.θ->y'.h.get? w.y.h.objs.size=some io->IkAt y' w.y.h.objs.size 0 I) (again:∀{s:Shared} {P:Value->Shared->Prop} {X:Value->Shared->Prop},s.heap.get? w.y.h.objs.size=some io->P (.ref w.y.h.objs.size) s->wpAny M g.A (pyIter (.ref w.y.h.objs.size)) P X s)
  (fin:∀{D C us rH} (ro:Wn g fr rH),Le w ro->Dc w ro D C us->alW (.list us) fr rH Q lQ->dJ M g.A X use P' (.ref D) C (.ok .next) ro.y.s)
  (q:Lp (·.2) (iA ((wp g.d ifs g.hd).tB true) (wp g.d e g.hd).val t fr.cel) (λs=>alW (.list s.1) fr s.2 Q lQ) I ([],L)) {itE:Expr} :
  wpAny M g.A (newList []) (λacc rE=>wpAny M g.A (newFunctionEnv (b5 sc) g.env.globals cl [] g.env.qual none .none (some g.env)) (λcenv rI =>
   af M g.A (.compStart (.ListComp (xe e) [⟨.Name (nm t) tp,itE,xl ifs,0⟩] (b5 sc) p) 0 (.ref w.y.h.objs.size) acc {cenv with scope:=relabel (b5 sc) g.env}) (dJ M g.A X use P' acc cenv.locals) rI) X rE) X {w.y.s with heap:=w.y.h.push io,toks:=n}:=by
 have k2:=a8 (a8 k);have k3:=a8 (a8 k2);have hsc:=a8 k3;have hcell:∀x∈(b5 sc).names,x.2≠.cell:=λx hx hl=>by
  obtain⟨n,k⟩:=x;obtain⟨i,rfl,hm⟩:=dC hx;dsimp only at hl;subst hl;rcases(cR hsc hm).2 with g|g|⟨g,_⟩<;>cases g
 refine lw<|wpAny_newObj_type (lw<|wpAny_newFunctionEnv hcell nofun (λrC u4 tx=>?_) rfl);have s1:(w.y.h.push io).objs.size=w.y.h.objs.size+1:=Heap.size_push ..;have s2:((w.y.h.push io).push (aM [] 0)).objs.size=w.y.h.objs.size+2:=(Heap.size_push ..).trans (qF (·+1) s1);have hlo:∀b o,((w.y.h.push io).push (aM [] 0)).get? b=some o->rC.get? b=some o:=λb o e=>tx.extBut b o (q_ (qZ e)) (qE _ e);have idl:Idle w.y.h rC:=⟨λb o e=>hlo b o (qE _ (qE _ e)),qC (qI _ 3) (qU (by rw[tx.1,Heap.size_push,s2]))⟩;have eI:rC.get? w.y.h.objs.size=some io:=hlo _ _ (qE _ (qK _ hfr));have eD:rC.get? (w.y.h.objs.size+1)=some (aM [] 0):=hlo _ _ (by rw[<-s1];exact qK _ rfl);have hL:rC.Ns (w.y.h.objs.size+2) (λ_=>none):=by rw[<-s2];exact u4
 have no:∀{b},w.y.h.objs.size<=b->¬w.y.own b:=λh z=>absurd (w.now.rel.lt _ z) (Nat.not_lt.mpr h);have key:=qk (tp:=tp) (pos:=p) (itE:=itE) (w₀:=w) (it:=w.y.h.objs.size) (li:=0) (D:=w.y.h.objs.size+1) (C:=w.y.h.objs.size+2) (R':=dJ M g.A X use P' (.ref (w.y.h.objs.size+1)) (w.y.h.objs.size+2)) he hi (kd_in w.now.at'.fn (ae k2)) (kd_in w.now.at'.fn (ae (a8 k2)))
  (xl_len ifs▸r9 (ae k3)) (ae (a8 k)) hsc hcl (λro l A q=>fin ro l A q) q ne (λb s=>by rw[hs b s];exact⟨q_ (Nat.lt_succ_self _),q_ (Nat.lt_add_of_pos_right (by decide))⟩) (w.idle idl (n+0))
  (Itr.new w idl (λb s=>qU (hs b s).symm) (ik _ rfl eI)) ⟨Nat.le_succ _,qI _ 2,no (Nat.le_succ _),no (qI _ 2),q_ (Nat.lt_succ_self _),⟨[],0,eD,.nil⟩,_,hL⟩
 rw[<-s1,<-s2] at key;exact d6 key (again eI key)
theorem lE(he:aP e)(hi:aP ifs)(ht:aP it)(k:kd g.env (.comp e t it ifs tp sc p)=true)(w:Wn g fr L)(q:compV sc t (wp g.d it g.hd).val ((wp g.d ifs g.hd).tB true) (wp g.d e g.hd).val fr L Q E)
  (ex:∀{fr' L'} (w':Wn g fr' L') n e,Le w w'->ExOf w'.y n e->E n fr' L'->X (.ref e) w'.y.s)
  (fin:∀{s6 s5} (rt:Wn g s6 s5),Le w rt->∀{D C us rH} (ro:Wn g s6 rH),Le rt ro->Dc rt ro D C us->alW (.list us) s6 rH Q lQ->dJ M g.A X use P' (.ref D) C (.ok .next) ro.y.s) :
  wpAny M g.A (comprehension (.ListComp (xe e) [⟨.Name (nm t) tp,xe it,xl ifs,0⟩] (b5 sc) p) (b5 sc) g.env pos (newList []) false (eval (xe it) g.env) use) P' X w.y.s:=by
 exists pos he hi ht k w q ex fin,zG g,zF fr,zL L,aK Q,aK E,zL sc,zX e,zX ifs,zX it,zN t,zP tp,zP p,zO use,aN P',aN X;have hsc:=a8 (a8 (a8 (a8 (a8 k))));unfold compV at q;cases hco:iD fr.cel sc with
 | false=>rw[hco] at q;exact q.elim
 | true =>
  rw[hco] at q;obtain⟨cl,hclos,hcl⟩:=jZ (scope:=b5 sc) (env:=g.env) λn hn=>by
   obtain⟨i,rfl,hm⟩:=dC hn;rcases(cR hsc hm).2 with z|z|⟨_,z⟩
   .cases z
   .cases z
   .obtain⟨j,hj⟩:=iC hco hm;obtain⟨a,ha,_⟩:=w.now.fr'.cel i j hj z;exact⟨a,ha⟩
  refine cN rfl ((form it).fold g.env) hclos rfl (λx hx hl=>?_) (ht.val w (ae k) _ _ (.mk _ X ⟨λ{s6 s5} rt v u l r q=>?_,ex⟩) q)
  .obtain⟨n,k⟩:=x;obtain⟨i,rfl,hm⟩:=dC hx;dsimp only at hl;subst hl;exact(cn i sc).trans (cR hsc hm).1
  .cases v with
   | ref n =>
    have m:∃us,nU s5 (.ref n) us:=by cases q with|nil m=>exact⟨_,m⟩|cons m=>exact⟨_,m⟩
    obtain⟨us,m⟩:=m;refine bf rt.now.rel m r λa ob ea e' ⟨vs,j,eo,rs⟩=>lw<|wpAny_pyIter_list ⟨_,eo▸e',rfl,j,rfl⟩ ?_;exact pa (I:=.lst n 0) he hi k hcl rt rfl (λb s=>by cases s;rfl) (λ_ _=>nofun) (λy' et e=>⟨a,et▸ea,_,e,rfl,rfl⟩) (λe h=>lw<|wpAny_pyIter_listiter ⟨_,e,rfl,rfl⟩ h) (λro rA A q=>fin rt l ro rA A q) q
   | rng lo hi' =>
    obtain⟨a,rfl,_,_,_,e'⟩:=r.now;refine lw<|wpAny_pyIter_range e' (jd q.1) ?_;rw[rangeSize_nat];exact pa (I:=.rng lo (hi' - lo).toNat) he hi k hcl rt rfl (λb s=>by cases s;rfl) (λ_ _=>nofun) (λy' et e=>e) (λe h=>lw<|wpAny_pyIter_rangeiter e h) (λro rA A q=>fin rt l ro rA A q) q.2
   | _=>exact q.elim
theorem snd_comp(he:aP e)(hi:aP ifs)(ht:aP it):aP (.comp e t it ifs tp sc p):=.ofV (λ_ _=>rfl) λ{g fr L} w k Q E z q=>by
 refine(?_:wpAny _ _ (eval (.ListComp (xe e) [⟨.Name (nm t) tp,xe it,xl ifs,0⟩] (b5 sc) p) g.env) _ _ _);refine lE (use:=none) he hi ht k w q z.ex λ{s6 s5} rt l {D C us rH} ro rA A q=>A.ns.elim λm hC=>⟨m,hC,λh' sb=>?_⟩;refine nn λno=>?_;obtain⟨vs,j,eD,r⟩:=A.lst;refine no ?_;have i:Side (λb=>b=D\/b=C) ro.y.h h':=⟨λb o nb e=>(sb.2 b λz=>nb (.inr z)).trans e,qU sb.1.symm,λb o z e=>z.elim (λz=>by cases z;cases eD.symm.trans e;rfl) λz=>(gO hC sb).imm b o z e⟩;exact(z.mv l).take (S:=λb=>b=D\/b=C) ro rA (n:=ro.y.s.toks) (.inl rfl) (λb z=>z.elim (λz=>z▸A.farD) λz=>z▸A.farC) (λb z=>z.elim (λz=>z▸A.noD) λz=>z▸A.noC) i ((sb.2 D A.ne).trans eD) q λm en y' yl =>
  ⟨vs,j,rfl,VsRel.mono ((Yl.plus (S:=λb=>b=D\/b=C) (λb z=>z.elim (λz=>z▸A.noD) λz=>z▸A.noC) en i).trans yl) r⟩
theorem mh{i:Nat}{q ps:Pos}{env:Env}(hf:env.scope.kind=.function)(hk:bO (env.kindOf (nm i))=true)(hq:Nat.beq q.line p.line=true)(hi:bO (look i sc)=false)(hsc:my (κs env) sc=true):
  swapsWith (.ListComp (xe e) [⟨.Name (nm t) tp,xe it,xl ifs,0⟩] (b5 sc) p) (some (.Name (nm i) q)) ps.line env=pure true:=by
 have h1:(env.blockKind==.function)=true:=by unfold Env.blockKind;rw[hf];rfl
 have h2:(q.line==p.line)=true:=by rw[qH hq,beq_self_eq_true]
 have h3:((b5 sc).names.any λ(n,k)=>n==nm i&&(k==.local||k==.cell))=false:=List.any_eq_false.mpr λ⟨n,kk⟩ hx z=>by
  obtain⟨j,rfl,hm⟩:=dC hx;have:=i6 _ _ (eq_of_beq (ae z));subst this;obtain⟨g1,g2⟩:=cR hsc hm;have hi:=(g1)▸hi;rcases g2 with rfl|rfl|⟨rfl,_⟩
  .cases hi
  .exact absurd (a8 z) (by decide)
  .exact absurd (a8 z) (by decide)
 refine(?_:(pure (env.blockKind==.function&&env.kindOf (nm i)==some .local&&q.line==p.line&&!((b5 sc).names.any λ(n,k)=>n==nm i&&(k==.local||k==.cell))):Sem Bool)=_);refine(h1).symm▸?_;refine(qD hk).symm▸?_;refine(h2).symm▸?_;refine(h3).symm▸?_;rfl
end
end
section
section
variable {g:G} {fr fr':Fr} {L L':Hp} {sc:List (Nat×NameKind)} {e ifs it:X} {t i':Nat} {tp p q ps:Pos}
theorem asg_comp(he:aP e)(hi:aP ifs)(ht:aP it)(w:Wn g fr L)(k:kd g.env (.comp e t it ifs tp sc p)=true)(hk:bO (κs g.env i')=true)(hq:Nat.beq q.line p.line=true)(hn:bO (look i' sc)=false):
  R flrel w (exec (.Assign [.Name (nm i') q] (xe (.comp e t it ifs tp sc p)) ps) g.env) ((wp g.d (.comp e t it ifs tp sc p) g.hd).val.bind λv=>(mH .loc i' v).bind λ_=>.ret .next):=by
 exists ps he hi ht w k hk hq hn,zG g,zF fr,zL L,zL sc,zX e,zX ifs,zX it,zN t,zN i',zP tp,zP p,zP q;intro Q E z q';refine(?_:wpAny _ _ (exec (.Assign [.Name (nm i') q] (.ListComp (xe e) [⟨.Name (nm t) tp,xe it,xl ifs,0⟩] (b5 sc) p) ps) g.env) _ _ _);refine(exec_Assign_Name_used _ _ _ _ (mh w.now.at'.fn hk hq hn (a8 (a8 (a8 (a8 (a8 k))))))).symm▸?_;refine a0 (aj (a0 ?_));refine(?_:wpAny _ g.A (do let _ <-comprehension (.ListComp (xe e) [⟨.Name (nm t) tp,xe it,xl ifs,0⟩] (b5 sc) p) (b5 sc) g.env _ (newList []) false (eval (xe it) g.env) (some (assign (.Name (nm i') q) g.env))) _ _ w.y.s);refine a0 (ag (lE (use:=some (assign (.Name (nm i') q) g.env)) (P':=λ_ s'=>z.P .next s') (X:=z.X) he hi ht k w q' z.ex λ{s6 s5} rt l {D C us rH} ro rA A sd=>?_) (λ_ s' hq=>a7 (a7 hq)) λ_ _ e=>e);refine nn λno=>?_;obtain⟨vs,j,eD,r⟩:=A.lst;obtain⟨mC,hC⟩:=A.ns;have i:Side (·=D) ro.y.h ro.y.h:=⟨λ_ _ _ e=>e,qW _,λb o z e=>by cases z;cases eD.symm.trans e;rfl⟩;obtain⟨m,um,rF,sf,rG,em,t8⟩:=Wn.take (S:=(·=D)) (w:=rt) ro rA ro.y.s.toks rfl (λb z=>z▸A.farD) (λb z=>z▸A.noD) i eD sd λm en y' yl=>⟨vs,j,rfl,VsRel.mono ((Yl.plus (S:=(·=D)) (λb z=>z▸A.noD) en i).trans yl) r⟩;refine no ?_;have tz:rF.y.h.Ns C mC:=by rw[sf];exact hC
 have nC:¬rF.y.own C:=by rw[sf];exact λz=>z.elim A.noC λz=>A.ne z.symm
 refine Eq.mp (qF (a₂:=ro.y.plus m D ro.y.h ro.y.s.toks) (λy:Y=>wpAny M g.A (assign (.Name (nm i') q) g.env (.ref D)) (λ_ s''=>∃m,s''.heap.Ns C m/\∀h',Heap.SameBut C s''.heap h'->z.P .next {s'' with heap:=h'}) z.X y.s) sf)
  (bJ (cm hk (w:=rF) (v:=.ref m) (u:=.ref D) (λy' yl=>⟨D,rfl,yl.th _ _ (by rw[sf];exact bX)⟩) (λ_ fr L=>Q .next fr L) E (.mk _ z.X ⟨λrJ _ _ rM _ sM=>?_,λrJ n e rM=>z.ex rJ n e ((l.trans rG).trans rM)⟩) t8))
 .have fC:=Wn.far A.farC;have tA:rJ.y.h.Ns C mC:=jH tz λo e=>⟨o.slots,rM.keep C o (qC rt.now.rel.up.size A.farC) e nC fC.1 λz=>fC.2 (qJ z)⟩;refine⟨mC,tA,λh' sb=>?_⟩;have u5:¬rJ.y.own C:=(oz tz).elim λo z=>rM.notown z.1 nC;refine nn λno=>?_;obtain⟨rZ,u6,rQ⟩:=Wn.side (S:=(·=C)) (w:=rJ) rt (rG.trans rM) rJ.y.s.toks (λ_ z=>z▸A.farC) (λ_ z=>z▸u5) (gO tA sb);refine no ?_;have:=z.ok rZ .next .next (l.trans rQ) rfl sM
  rw[u6] at this;exact this
def Parts:X->Prop
 | .comp e _ it ifs _ _ _=>aP e/\aP it/\aP ifs
 | _=>True
theorem cmp_form{C:X->X->Prop}{t e:X}(h:cmpT t e=true)(f:∀i q e' t' it ifs tp sc p,Nat.beq q.line p.line=true->bO (look i sc)=false->C (.nam .loc i q) (.comp e' t' it ifs tp sc p)):C t e:=by
 cases t with
 | nam k i q=>cases k with
  | loc=>cases e with
   | comp e' t' it ifs tp sc p=>exact f _ _ _ _ _ _ _ _ _ (ae h) (gy (a8 h))
   | _=>exact eP h rfl
  | _=>exact eP h rfl
 | _=>exact eP h rfl
theorem or_b{a b:Bool}(h:(!a||b)=true):a=false\/b=true:=by cases a<;>first|exact .inl rfl|exact .inr h
theorem snd_asg{t e:X}(ht:aP t)(he:aP e)(pe:Parts e):aP (.asg t e ps):=.ofS λ{g fr L} w k B=>by
 have k2:=a8 (a8 k);rcases or_b (a8 k2) with h|h
 .exact qu ht he h (gy (ae (ae k2))) (gy (a8 (ae k2))) (Bool.and_eq_true_iff.mpr ⟨ae k,ae (a8 k)⟩) w
 .exact cmp_form (C:=λt e=>kd g.env t=true->kd g.env e=true->Parts e->R flrel w (exec (er (.asg t e ps)).s g.env) ((wp g.d (.asg t e ps) g.hd).stm)) h (λi q e' t' it ifs tp sc p h1 h2 k1 k3 pe=>asg_comp pe.1 pe.2.2 pe.2.1 w k3 k1 h1 h2) (ae k) (ae (a8 k)) pe
end
end
section
noncomputable def apart(p q:Pos):Prop:=(p.line==q.line&&p.col==q.col)=false
structure CloAt (k:Nat):Prop where
 cl:∀env a,env.cells.lookup (nm (dj k))=some a->closureFor (ck k).2.2 env=pure [(nm (dj k),a)]
 free:∀j,(ck k).2.2.names.lookup (nm j)=some .free->j=dj k
 dfl:(ck k).1.defaults=[]/\(ck k).1.kw_defaults=[]
 doc:∀b,(ck k).2.1=.stmts b->docOf b=none
 ann:annTrees (ck k).1 none=λ_=>[]
theorem cl_one{sc:Scope}{s x:Str}{env:Env}{a:Addr}(e:sc.names=[(s,.free),(x,.globalImplicit)]\/sc.names=[(s,.free)])(h:env.cells.lookup s=some a):closureFor sc env=pure [(s,a)]:=by
 unfold closureFor;rcases e with e|e<;>(
  rw[e];simp only[List.forIn_cons,List.forIn_nil,cellOf,h];rfl)
theorem fr_one{l:List (Str×NameKind)}{s x:Str}{i j:Nat}(es:s=nm i)(e:l=[(s,.free),(x,.globalImplicit)]\/l=[(s,.free)])(h:l.lookup (nm j)=some .free):j=i:=by
 exists es e h,zL l,zs s,zs x,zN i,zN j;have m:(nm j,NameKind.free)∈l:=jT h;rcases e with e|e<;>rw[e] at m
 .cases m with
  | head=>exact i6 _ _ es
  | tail _ m=>cases m with|tail _ m=>cases m
 .cases m with
  | head=>exact i6 _ _ es
  | tail _ m=>cases m
theorem clo_nm:∀k,∃x,(ck k).2.2.names=[(nm (dj k),.free),(x,.globalImplicit)]\/(ck k).2.2.names=[(nm (dj k),.free)]
 | 0=>⟨Str.ofString "list",.inl (by rfl')⟩
 | 1=>⟨Str.ofString "CommandFault",.inl (by rfl')⟩
 | _+2=>⟨Str.ofString "",.inr (by rfl')⟩
theorem nc(k:Nat):CloAt k where
 cl:=λenv a h=>(clo_nm k).elim λx e=>cl_one e h
 free:=λj h=>(clo_nm k).elim λx e=>fr_one rfl e h
 dfl:=match k with
  | 0=>⟨rfl,rfl⟩
  | 1=>⟨rfl,rfl⟩
  | _+2=>⟨rfl,rfl⟩
 doc:=match k with
  | 0=>nofun
  | 1=>λb h=>by cases h;rfl
  | _+2=>λb h=>by cases h;rfl
 ann:=match k with
  | 0=>rfl
  | 1=>rfl
  | _+2=>rfl
theorem tab733(P:Params):∃o vs file tf flags tg inF text tt,(HF P).get? 733=some o/\o.cls=.type "code"/\o.data=.fields vs/\vs[11]?=some (.ref 731)/\vs.getD 11 .none=.ref 731/\vs.getD 18 .none=.str file tf/\vs.getD 7 .none=.int flags tg/\vs.getD 9 .none=.bool inF/\vs.getD 10 .none=.int text tt/\(733:Nat)≠731 :=
 ⟨o733,_,_,_,_,_,_,_,_,by rfl',rfl,rfl,rfl,rfl,rfl,rfl,rfl,rfl,by decide⟩
theorem law_code:CodeHd Bs lawA gF:=by
 obtain⟨o,vs,file,tf,flags,tg,inF,text,tt,e,r⟩:=tab733 w0.params;exact⟨o,vs,file,tf,flags,tg,inF,text,tt,iJ (by decide) e,r⟩
theorem bat3:∃bm o,nsFind (m_ 3) "__builtins__"=some (.ref bm)/\bm≠builtinsNs/\bm≠mainGlobals/\bm≠731/\(HF w0.params).get? bm=some o/\o.cls=.type "module"/\o.dict=some builtinsNs/\o.data=.plain:=⟨4,boot_o_4 w0.params,by rfl',by decide,by decide,by decide,by rfl',by rfl',by rfl',by rfl'⟩
theorem law_glb:∃mg,Bs.Ns mainGlobals mg/\Bs.BuiltinsAt mg gF:=by
 obtain⟨bm,o,e1,e2,e3,e4,e5,e6⟩:=bat3;exact⟨_,oA d3,bm,o,e1,e2,e3,e4,iJ e4 e5,e6⟩
theorem tab_ne:mainGlobals≠gF:=by decide
theorem pM(j k:Nat)(h:j<k):apart (cu j) (cu k):=by
 have far:∀{n k:Nat},apart (Zx.P n) ⟨k+2000,0,0,0⟩:=λ{n k}=>by
  have e:(n % 700==k+2000)=false:=beq_eq_false_iff_ne.mpr (q_ (qL (Nat.mod_lt _ (by decide)) (qC (by decide) (Nat.le_add_left 2000 k))));refine(?_:(n % 700==k+2000&&_)=false);rw[e];rfl
 match j,k,h with
 | 0,1,_=>rfl
 | 0,2,_=>rfl
 | 1,2,_=>rfl
 | 0,k+3,_=>exact far
 | 1,k+3,_=>exact far
 | 2,k+3,_=>exact far
 | j+3,k+4,h =>
  have e:(j+3+2000==k+4+2000)=false:=beq_eq_false_iff_ne.mpr λz=>q_ h (Nat.add_right_cancel z);refine(?_:(j+3+2000==k+4+2000&&_)=false);rw[e];rfl
set_option tactic.hygienic true in
theorem ny{p q:Pos}{v:Value}(hq:apart p q):∀l:List Value,TriplesOk l->codeAmong q l=none->codeAmong q (l++[rawInt p.line,rawInt p.col,v])=none:=by
 intro l h hn
 fun_induction TriplesOk l with
 | case1 =>
  unfold apart at hq;have e:∀a b:Nat,(((a:Int)==(b:Int))=(a==b)):=λa b=>Bool.eq_iff_iff.mpr (by rw[beq_iff_eq,beq_iff_eq];exact Int.ofNat_inj);have:(((p.line:Int)==(q.line:Int))&&((p.col:Int)==(q.col:Int)))=false:=by rw[e,e];exact hq
  show(if(((p.line:Int)==(q.line:Int))&&((p.col:Int)==(q.col:Int)))=true then _ else _)=_;rw[this];rfl
 | case2 a t b u v rest ih =>
  simp only[List.cons_append];unfold codeAmong at hn ⊢;split at hn
  .cases hn
  .rename_i z;rw[if_neg z];exact ih h hn
 | case3=>exact h.elim
section
variable {A:Around} {E:Value->Shared->Prop} {s:Shared} {name qual:Str} {params:Arguments} {body:FuncBody} {scope:Scope} {env:Env} {c P:Addr} {ps:Array Value} {pos:Pos} {firstLine:Nat} {mg:Str->Option Value} {q:Str×Addr} {Q:Value->Shared->Prop}
noncomputable abbrev mkFd(name qual:Str)(params:Arguments)(body:FuncBody)(scope:Scope)(q:Str×Addr)(pm ctv:Value)(c':Addr):FuncData :=
 {name,qualname:=qual,params,body,scope,globals:=mainGlobals,closure:=[q],defaults:=.none,kwdefaults:=.none,doc:=.none,pyModule:=pm,annotations:=none,code:=.ref c',closureTuple:=ctv,builtins:=builtinsNs}
theorem mk_fn(hcl:closureFor scope env=pure [q])(hge0:env.globals=mainGlobals)(hg:s.heap.Ns mainGlobals mg)(hcode:env.code=.ref c)(C:CodeHd s.heap c P)(hP:s.heap.get? P=some (tabObj ps))(ht:TriplesOk ps.toList)
  (hnf:codeAmong pos ps.toList=none) (hgP:mainGlobals≠P) (hb:s.heap.BuiltinsAt mg P) (hd:∀b,body=.stmts b->docOf b=none)
  (h:∀c' ctv pm h' tk oc vs tq,Heap.ExtBut P s.heap h'->s.heap.objs.size<=h'.objs.size->h'.get? c'=some oc->bS oc=true->oc.data=.fields vs->vs[1]?=some (.str qual tq)->h'.get? P=some (tabObj (ps++#[rawInt pos.line,rawInt pos.col,.ref c'])) ->
   Q (.ref h'.objs.size) {s with heap:=h'.push {cls:=.type "function",data:=.func (mkFd name qual params body scope q pm ctv c')},toks:=tk}) :
  wpAny M A (makeFunction name qual params body scope env [] [] [] pos firstLine) Q E s:=by
 exists E params body firstLine mg hcl hge0 hg hcode C hP ht hnf hgP hb hd h,zA A,zS s,zs name,zs qual,zsc scope,zQ env,zN c,zN P,za ps,zP pos,(zx zs zN) q,aN Q;refine nn λno=>?_;obtain⟨bm,ob,hbm,hne0,_,hneP,hbo,hcls,hdict,hdata⟩:=hb;refine no ?_;rw[makeFunction_eq];simp only[List.zip_nil_right,List.filterMap_nil,List.isEmpty_nil,if_true,pure_bind];unfold makeTail;refine(hcl).symm▸?_;refine(hge0).symm▸?_;refine a0 (a7 ?_);refine a0 (lw<|wpAny_newTextTuple ?_);refine a0 (grown (lw<|wpAny_functionCodeX hcode ((C.keeps λb o e=>qE _ e).code (qE _ hP) ht) ((C.keeps λb o e=>qE _ e).tab (qE _ hP)) hnf λc' h' tk hx hge hlt _ hrec htb hc' hsz=>?_));refine nn λno=>?_;obtain⟨P',_,_,⟨oc,vs,e1,e2,e3,_⟩,_⟩:=hc';obtain⟨uq,ur,ut,tq,q1,q2,q3,q4⟩:=hrec;refine no ?_;cases q1;rw[e1] at q2;cases q2;rw[e3] at q3;cases q3;have hg':=(hg.push _).extBut hx hgP;have hx':Heap.ExtBut P s.heap h':=λb o hb' e=>hx b o hb' (qE _ e);have hsz':s.heap.objs.size<=h'.objs.size:=qC (Nat.le_of_lt (by rw[Heap.size_push];exact Nat.lt_succ_self _)) hsz;have im:bS oc=true:=by unfold bS;rw[e2,e3];rfl
 refine a0 (lw<|wpAny_builtinsFor hg' hbm hne0 (hx' _ _ hneP hbo) hcls hdict hdata ?_);refine a0 (lw<|wpAny_nsGet hg' ?_);cases body with
 | expr e=>exact a0 (a7 (lw<|wpAny_newObj_type (h c' _ _ h' tk oc vs tq hx' hsz' e1 im e3 q4 htb.2) (by size_fits)))
 | stmts b =>
  simp only[hd b rfl];exact a0 (a7 (lw<|wpAny_newObj_type (h c' _ _ h' tk oc vs tq hx' hsz' e1 im e3 q4 htb.2) (by size_fits)))
end
section
variable {g:G} {fr:Fr} {L L':Hp} {y:Y} {h':Heap} {k t:Nat} {ps:Array Value}
theorem Wn.tabs(w:Wn g fr L)(ch:Chg L (.l 0) (.tab k) (.tab (k+1)) L')(sP:w.y.h.get? gF=some (tabObj ps))(kp:∀b o,b≠gF->w.y.h.get? b=some o->h'.get? b=some o)(hz:w.y.h.objs.size<=h'.objs.size)(hT:Tab h' (k+1)):
  ∃w':Wn g fr L',w'.y=w.y.to h' t/\Le w w':=by
 exists w ch sP kp hz hT,zG g,zF fr,zL L,zL L',zH h',zN k,zN t,za ps;have R:=w.now.rel;have hB:∀{b},Bs.objs.size<=b->b≠gF:=λh z=>absurd gJ (Nat.not_lt.mpr (z▸h));have ob:∀{b},w.y.own b->b≠gF:=λo=>hB (R.new _ o);have yl:Yl w.y (w.y.to h' t):=⟨λ_ _ e=>e,λb o e i=>kp b o (λz=>by cases(z▸e).symm.trans sP;cases i) e,λT x=>x.to (λ_ o=>o) λo e _=>kp T o (ob x.own) e⟩;have fs:∀b∈dH g.l,Bs.objs.size<=b:=λb h=>by
  obtain⟨e,he,q⟩:=List.mem_filterMap.mp h;cases w.now.stk.fr e he with
  | mk L o es n k q' e' d w b=>cases q.symm.trans q';exact b
 have mv:Mv (dH g.l) none w.y (w.y.to h' t):=⟨yl,rfl,rfl,hz,λ_ o=>o,λ_=>.inl,λa C ad b oa ⟨x,e,q⟩=>⟨ad,x,kp a x (ob oa) e,q.mono yl⟩,λb o z e _ _ _=>kp b o (hB z) e,λb h _ _ o e=>⟨o.slots,kp b o (hB (fs b h)) e⟩⟩;have R':Rel (w.y.to h' t) L':=by
  obtain⟨l,r,rfl,rfl⟩:=ch;have kk:=h_ R.keys;refine⟨⟨λb o e=>kp b o (λz=>by rw[z,bs_tab] at e;cases e) (R.up.keep b o e),qC R.up.size hz⟩,R.fin,R.inj,R.sub,R.new,λb q=>qL (R.lt b q) hz,i8 kk.1 kk.2,λp o hm=>?_⟩;rcases jP hm with e|hm
  .cases e;cases R.obj (.l 0) (.tab k) (qO _ (.head _)) with
   | ob a x e g r=>exact(r w.y (.refl _)).elim
   | no i e=>exact .no 0 e rfl ⟨rfl,hT⟩
  .exact(R.obj p o (jQ hm)).keep yl (λ_ _ e=>e) (λz=>absurd z (kk.2 _ hm)) λa x ea e=>kp a x (ob (R.sub _ _ ea)) e
 exact⟨⟨_,w.now.step mv R'⟩,rfl,mv.weak⟩
theorem fn_r{name qual:Str}{fl:Nat}(w:Wn g fr L)(hl:cL g.env.code=true)(hc:cB (κs g.env (dj k))=true):R VRel w (makeFunction name qual (ck k).1 (ck k).2.1 (ck k).2.2 g.env [] [] [] (cu k) fl) (lamW k):=by
 exists w hl hc,zG g,zF fr,zL L,zN k,zs name,zs qual,zN fl;intro Q E z q;have K:=nc k;unfold lamW at q;cases hm:look (dj k) fr.cel with
 | none=>rw[hm] at q;exact q.elim
 | some j =>
  rw[hm] at q;refine nn λno=>?_;obtain⟨L',ch,q⟩:=q;refine no ?_;cases w.now.rel.obj (.l 0) (.tab k) ch.mem with
  | ob a x e g r=>exact(r w.y (.refl _)).elim
  | no i e hn r =>
   refine nn λno=>?_;obtain⟨ps,sP,ht,hn⟩:=r.2;obtain⟨mg,hg,hb⟩:=law_glb;obtain⟨a,ha,hr⟩:=w.now.fr'.cel _ j hm hc;refine no ?_;have hcode:g.env.code=.ref lawA:=by
    revert hl;cases g.env.code with
    | ref x=>intro h;rw[qH h]
    | _=>exact λh=>eP h rfl
   have kb:=w.now.rel.up.keep;refine(mk_fn (K.cl g.env a ha) w.now.at'.glb (w.now.rel.up.ns hg) hcode (law_code.keeps kb) sP ht (hn k (qW _)) tab_ne (let⟨bm,o,a1,a2,a3,a4,a5,a6⟩:=hb;⟨bm,o,a1,a2,a3,a4,kb _ _ a5,a6⟩) K.doc λc' ctv pm h' tk oc vs tq hx hz e1 e2 e3 e4 e5=>?_);refine nn λno=>?_;obtain⟨rt,rP,l₁⟩:=w.tabs (t:=tk) ch sP hx hz ⟨_,e5,by rw[Array.toList_append];exact TriplesOk_snoc _ _ _ _ ht,λj hj=>by rw[Array.toList_append];exact ny (pM k j hj) _ ht (hn j (Nat.le_of_succ_le hj))⟩;refine no ?_;have:=(z.mv l₁).push (n:=tk) (ob:={cls:=.type "function",data:=.func (mkFd name qual (ck k).1 (ck k).2.1 (ck k).2.2 (nm (dj k),a) pm ctv c')}) rfl q λm en y' yl =>
    ⟨_,rfl,rfl,rfl,rfl,rfl,rfl,rfl,rfl,⟨c',oc,vs,tq,rfl,yl.imm _ _ (qE _ (by rw[rP];exact e1)) e2,e2,e3,e4⟩,λi j' q1 q2=>by
     have:=K.free i q2;subst this;cases hm.symm.trans q1;exact⟨a,by show List.lookup _ [(nm (dj k),a)]=_;rw[List.lookup,beq_self_eq_true],yl.th _ _ (dR en (by rw[rP];exact hr))⟩⟩
   rw[rP] at this;exact this
theorem isEx_e{b:FuncBody}(h:isEx b=true):FuncBody.expr (pn b)=b:=by cases b<;>first|rfl|cases h
theorem isSt_e{b:FuncBody}(h:isSt b=true):FuncBody.stmts (bodyT b)=b:=by cases b<;>first|rfl|cases h
theorem snd_lam:aP (.lam k):=.ofV (λ_ _=>rfl) λ{g fr L} w h=>by
 have K:=nc k;refine(fn_r (name:="<lambda>") (qual:=g.env.qual++"<lambda>") (fl:=(cu k).line) w (ae h) (ae (a8 h))).of λ{P X} z=>?_;refine(?_:wpAny M g.A (eval (.Lambda (ck k).1 (pn (ck k).2.1) (ck k).2.2 (cu k)) g.env) _ _ _);rw[arm_eval_Lambda,show defaultsOf (ck k).1 g.env=([],[]) from by rw[defaultsOf_eq,K.dfl.1,K.dfl.2];rfl];refine(?_:wpAny M g.A (do let dv <-evalAll [];let kdv <-holding dv (evalAllOpt []);makeFunction "<lambda>" (g.env.qual++"<lambda>") (ck k).1 (.expr (pn (ck k).2.1)) (ck k).2.2 g.env dv kdv [] (cu k) (cu k).line) _ _ _);refine(isEx_e (a8 (a8 h))).symm▸?_;exact a0 (a7 (a0 (ac (a7 z))))
theorem snd_def{i:Nat}:aP (.def_ i k):=.ofS λ{g fr L} w h B Q E z q=>by
 have K:=nc k;have h2:=a8 (a8 h);refine(?_:wpAny M g.A (exec (.FunctionDef (nm i) (ck k).1 (bodyT (ck k).2.1) [] none [] (ck k).2.2 none (nm i) (cu k)) g.env) _ _ _);rw[exec_def,isSt_e (ae h2)];refine a0 (aj (a0 (ac ?_)));rw[defaultsOf_eq,K.dfl.1,K.dfl.2,congrFun K.ann];refine a0 (a7 ?_);refine a0 (ac (a7 ?_));refine ac (a0 (a7 ?_));exact fn_r w (ae h) (ae (a8 h)) _ _ (.mk _ z.X ⟨λw' v u l rv q=>R.stand (oy (m:=mH .loc i v) λQ E z q=>bI (cm (a8 h2) rv Q E z q)) Q E (z.mv l) q,z.ex⟩) q
end
end
section
theorem snd_p(x:X):aP x/\Parts x:=by
 induction x with
 | lit l p=>exact⟨snd_lit,trivial⟩
 | nam k i p=>exact⟨snd_nam,trivial⟩
 | bin op l r p a b=>exact⟨snd_bin a.1 b.1,trivial⟩
 | un o x p a=>exact⟨snd_un a.1,trivial⟩
 | ifx t b o p a b' c=>exact⟨snd_ifx a.1 b'.1 c.1,trivial⟩
 | bop a xs p h=>exact⟨snd_bop h.1,trivial⟩
 | cmp l o r p a b=>exact⟨snd_cmp a.1 b.1,trivial⟩
 | cmp2 l o m o2 r p a b c=>exact⟨snd_cmp2 a.1 b.1 c.1,trivial⟩
 | attr o a p h=>exact⟨snd_attr h.1,trivial⟩
 | sub o i p a b=>exact⟨snd_sub a.1 b.1,trivial⟩
 | subs o lo hi st sp p a b c d=>exact⟨snd_subs a.1 b.1 c.1 d.1,trivial⟩
 | sq k xs p h=>exact⟨snd_sq h.1,trivial⟩
 | call f xs p a b=>exact⟨snd_call a.1 b.1,trivial⟩
 | mcall o a xs ap p h1 h2=>exact⟨pP h1.1 h2.1,trivial⟩
 | comp e t it ifs tp sc p a b c=>exact⟨snd_comp a.1 c.1 b.1,a.1,b.1,c.1⟩
 | lam k=>exact⟨snd_lam,trivial⟩
 | nil=>exact⟨snd_nil,trivial⟩
 | cons x xs a b=>exact⟨snd_cons a.1 b.1,trivial⟩
 | s1 k e p h=>exact⟨snd_s1 h.1,trivial⟩
 | asg t e p a b=>exact⟨snd_asg a.1 b.1 b.2,trivial⟩
 | asgs sw ts ys p1 p2 p a b=>exact⟨snd_asgs a.1 b.1,trivial⟩
 | iff t b o p a b' c=>exact⟨snd_iff a.1 b'.1 c.1,trivial⟩
 | for_ t it b p a b' c=>exact⟨snd_for a.1 b'.1 c.1,trivial⟩
 | forE ts x b tp np cp p a b' c=>exact⟨snd_forE a.1 b'.1 c.1,trivial⟩
 | exc b C n h hp p a b' c=>exact⟨snd_exc a.1 b'.1 c.1,trivial⟩
 | fin b f p a b'=>exact⟨snd_fin a.1 b'.1,trivial⟩
 | def_ i k=>exact⟨snd_def,trivial⟩
theorem snd(x:X):aP x:=(snd_p x).1
section
variable {d i:Nat} {hd:Bool} {a:Nat} {us:List V} {fr:Fr} {L:Hp} {Q:V->Fr->Hp->Prop} {E:Hd->Fr->Hp->Prop} {n:Hd} {cs:List (Nat×Hd)}
theorem dg(q:jp d hd a us fr L Q E):HE (d+1) hd a us fr L Q E:=e_def snd q
theorem k_in(m:(n,O.fn i cs)∈L)(q:cloW d hd i cs us fr L Q E):HK (d+1) hd (.ref n) us fr L Q E:=k_clo snd m q
end
end
section
theorem sys1:((HF w0.params).get? 1).isSome=true:=by rfl'
theorem sys_lt:sysModules<Bs.objs.size:=(Option.isSome_iff_exists.mp sys1).elim λo e=>qZ (iJ (by decide) e)
section
variable {α β:Type} {rel:Y->α->β->Prop} {t1:Value->Sem β} {t2:Value->Value->Sem β} {a b:V} {x:α} {fr:Fr} {L L':Hp} {E:Hd->Fr->Hp->Prop} {n m:Hd}
theorem to1{Q:α->Fr->Hp->Prop}(q:Q x fr L)(h:∀{g} (w:Wn g fr L) {u},VRel w.y a u->R rel w (t1 u) (.ret x)):Op1 rel t1 a fr L Q E:=λg w u ra z=>h w ra _ _ z q
theorem to2{Q:α->Fr->Hp->Prop}(q:Q x fr L)(h:∀{g} (w:Wn g fr L) {u v},VRel w.y a u->VRel w.y b v->R rel w (t2 u v) (.ret x)):Op2 rel t2 a b fr L Q E:=λg w u v ra rb z=>h w ra rb _ _ z q
variable {i j:Int} {Q:V->Fr->Hp->Prop} {P:Bool->Fr->Hp->Prop}
theorem ju{x z:List V}(m1:(m,O.list x)∈L)(m2:(n,O.list z)∈L)(h:x.length+z.length<=1000000)(q:Al (.list (x++z)) L λk L=>Q (.ref k) fr L):HB .add (.ref m) (.ref n) fr L Q E:=λg w u v r r' zz =>
 bf w.now.rel m1 r λa ob ea e ⟨vs,j,eo,ra⟩=>bf w.now.rel m2 r' λb ob' eb e' ⟨us,j',eo',rb⟩=>by
  subst eo eo';rw[<-All2.len ra,<-All2.len rb] at h;refine lw<|PySem.P.add_list e e' ?_ (by simp only[List.size_toArray,sizeLine];exact qC h (by decide));exact zz.push rfl q λk ek y' yl=>⟨vs++us,0,by rw[List.append_toArray],VsRel.mono ((Yl.plus (S:=(·=w.y.h.objs.size)) w.nown ek ((Idle.push _ _).side λ_ z=>qU z.symm)).trans yl) (ra.app rb)⟩
theorem All2.rep{α β:Type}{R:α->β->Prop}{a:α}{b:β}(x:R a b):∀n,All2 R (List.replicate n a) (List.replicate n [b]).flatten
 | 0=>.nil
 | n+1=>.cons x (All2.rep x n)
theorem b_rep{x:V}{n:Int}(m1:(m,O.list [x])∈L)(h1:0<=n)(h2:n<=1000)(q:Al (.list (List.replicate n.toNat x)) L λk L=>Q (.ref k) fr L):HB .mul (.ref m) (.int n) fr L Q E:=λg w u v r r' zz =>
 bf w.now.rel m1 r λad ob ea e ⟨vs,nn,eo,ra⟩=>bl r' λt=>by
  subst eo;obtain⟨b,rfl,xa⟩:∃b,vs=[b]/\VRel w.y x b:=by cases ra with|cons x z=>cases z;exact⟨_,rfl,x⟩
  have ho:=e;refine lw<|PySem.wpAny_binaryOp_repeat_ref (T:="list") (U:="int") (by decide) ⟨_,ho,rfl⟩ (λs'=>typeIs_int s' n t) noFill_list_mul F.fills_int_mul F.slot_int_rmul repeat_list F.slot_int_index.lookup
   (call_meets F.slot_int_rmul (typeIs_int w.y.s n t) F.entry_int_rmul (F.args_int_rmul_2 _ _) (lm_int_rmul_list_any n t ad [b].toArray nn none #[])
    ⟨ho,rfl,⟨_,ho,rfl⟩,call_meets F.slot_list_mul ⟨_,ho,rfl⟩ F.entry_list_mul (F.args_list_mul_2 _ _)
     (lm_list_mul_any ad [b].toArray nn none #[] n t (by simp[Builtin.List.listFitsIndex];lia) (by simp only[List.size_toArray,List.length_singleton];lia) (by simp[Builtin.List.listTooLong,sizeLine];lia))
     ⟨ho,?_⟩⟩)
  rw[listMul_foldl_if];exact zz.push rfl q λk ek y' yl=>⟨(List.replicate n.toNat [b]).flatten,0,rfl,.rep (xa.mono ((Yl.plus (S:=(·=w.y.h.objs.size)) w.nown ek ((Idle.push _ _).side λ_ z=>qU z.symm)).trans yl)) n.toNat⟩
variable {k l:Nat} {us:List V} {ds:List PyData} {d:PyData}
theorem hY:∀{is:List Int},Rds L k (is.map V.int) (is.map PyData.int)
 | []=>bD
 | i::is=>aG ca (hY (is:=is))
theorem g8(r:Rds L k us ds):Rd L (k+1) (.tup us) (.tuple ds):=λR x=>etup x λa vs n e q=>have p:=r R q;⟨p.rd.elim λ_ b=>⟨_,.tuple e rfl rfl b⟩,p.lay,r7 p.dep⟩
theorem mD(m:(n,O.list us)∈L)(r:Rds L k us ds):Rd L (k+1) (.ref n) (.list ds):=λR x=>bf R m x λa ob ea e ⟨vs,j,eo,q⟩=>have p:=r R q;⟨p.rd.elim λ_ b=>⟨_,.list (eo▸e) rfl rfl b⟩,p.lay,r7 p.dep⟩
theorem IsD.shaped{h:Heap}{v:Value}(x:IsD h k v d)(hn:k<=19):SeqAt.shaped d=true:=by
 unfold SeqAt.shaped;rw[x.lay];exact decide_eq_true (qC (qC x.dep hn) (by decide))
variable {x z:PyData}
theorem o_eqd(h1:Rd L k a x)(h2:Rd L l b z)(hk:k<=19)(hl:l<=19)(q:P (PyData.eqv x z) fr L):HC .eq a b fr L P E:=to2 q λw u v ra rb =>
 have x1:=h1 w.now.rel ra;have x2:=h2 w.now.rel rb
 .val rfl λk=>lw<|eq_dataH x1.rd.choose_spec x2.rd.choose_spec (x1.shaped hk) (x2.shaped hl) (by have:=w.room.2;lia) k
theorem o_ned(h1:Rd L k a x)(h2:Rd L l b z)(hk:k<=19)(hl:l<=19)(q:P (!PyData.eqv x z) fr L):HC .ne a b fr L P E:=to2 q λw u v ra rb =>
 have x1:=h1 w.now.rel ra;have x2:=h2 w.now.rel rb
 .val rfl λk=>lw<|ne_dataH x1.rd.choose_spec x2.rd.choose_spec (x1.shaped hk) (x2.shaped hl) (by have:=w.room.2;lia) k
theorem o_inl(m:(n,O.list us)∈L)(h1:Rd L 8 a d)(h2:Rds L 8 us ds)(q:P (ds.any λz=>PyData.eqv z d) fr L):HC .isIn a (.ref n) fr L P E:=to2 q λw u v ra rb=>bf w.now.rel m rb λad ob ea e ⟨vs,j,eo,r⟩ =>
 have p:=h1 w.now.rel ra;have s:=h2 w.now.rel r
 .val rfl λk=>lw<|SeqAt.in_list_reads (.list (eo▸e) rfl rfl s.rd.choose_spec) p.rd.choose_spec s.lay p.lay (by have:=w.room.2;have:=p.dep;have:=s.dep;lia) k
theorem o_nsame(q:P false fr L):HC .isNot (.ref n) (.ref n) fr L P E:=to2 q λw u v ra rb=>by
 have h:u=v:=eref ra λa e=>eref rb λb e'=>qF _ (qJ (e.symm.trans e'));subst h;exact eref ra λa e=>.val rfl λk=>lw<|wpAny_isNot_ref_self k
end
end
section
section
variable {fr:Fr} {L L':Hp} {E:Hd->Fr->Hp->Prop} {n m:Hd} {i:Int} {Q:V->Fr->Hp->Prop} {P:Bool->Fr->Hp->Prop} {a u w:V}
section
variable {κ κ':Type} [DecidableEq κ'] {kf:κ->κ'} {eq:κ->κ->Bool} {y:Y}
theorem cT{k:κ}(he:∀j,eq j k=decide (kf j=kf k)){es:List (κ×V)}{kvs:List (κ'×Value)}(h:All2 (pD kf y) es kvs):OptR y (b9 eq k es) (valueAt kvs (kf k)):=by
 induction h with
 | nil=>trivial
 | @cons p q es kvs x h ih =>
  rw[show valueAt (q::kvs) (kf k)=if q.1=kf k then some q.2 else valueAt kvs (kf k) from by unfold valueAt;rw[List.find?_cons];by_cases z:q.1=kf k<;>simp[z]];show OptR y (match eq p.1 k with|true=>some p.2|false=>b9 eq k es) _;rw[he,x.1];by_cases z:q.1=kf k
  .rw[if_pos z,decide_eq_true z];exact x.2
  .rw[if_neg z,decide_eq_false z];exact ih
theorem OptR.isSome{o:Option V}{p:Option Value}(h:OptR y o p):p.isSome=o.isSome:=by cases o<;>cases p<;>first|rfl|exact h.elim
theorem OptR.get{o:Option V}{p:Option Value}{v:V}(h:OptR y o p)(e:o=some v):∃x,p=some x/\VRel y v x:=by
 subst e;cases p with
 | none=>exact h.elim
 | some x=>exact⟨x,rfl,h⟩
end
theorem eqI(j k:Int):ai j k=decide (id j=id k):=rfl
theorem Rel.notSys{y:Y}(R:Rel y L){a:Addr}(e:y.θ n=some a):(a==sysModules)=false:=beq_eq_false_iff_ne.mpr λz=>absurd sys_lt (Nat.not_lt.mpr (z▸R.new a (R.sub _ _ e)))
variable {es:List (Int×V)} {se:List (List Nat×V)}
@[elab_as_elim] theorem eJ{y:Y}{C:Value->Prop}(R:Rel y L)(m:(n,O.dict es)∈L){w':Value}(x:VRel y (.ref n) w')(f:∀a ob kvs,y.θ n=some a->y.h.get? a=some ob->(∃a b,ob.data=.dict a b)->y.h.DictOf (intKind prog w0) a kvs->All2 (pD id y) es kvs->C (.ref a)):C w':=bf R m x λa ob ea e ⟨kvs,D,z,er⟩=>f a ob kvs ea e z (D _ _ e) er
theorem ou(m:(n,O.dict es)∈L)(q:P (b9 ai i es).isSome fr L):HC .isIn (.int i) (.ref n) fr L P E:=to2 q λw u v rx rl=>bl rx λt=>eJ w.now.rel m rl λa ob kvs ea e _ D er =>
 .tok (qF Value.bool (cT (eqI · i) er).isSome.symm).symm λk=>lw<|wpAny_in_of (intKind_is ..) (w.now.rel.notSys ea) D.mapOf k
theorem je(m:(n,O.dict es)∈L)(q:P (!(b9 ai i es).isSome) fr L):HC .notIn (.int i) (.ref n) fr L P E:=to2 q λw u v rx rl=>bl rx λt=>eJ w.now.rel m rl λa ob kvs ea e _ D er =>
 .tok (qF (λb=>Value.bool !b) (cT (eqI · i) er).isSome.symm).symm λk=>lw<|wpAny_notIn_of (intKind_is ..) (w.now.rel.notSys ea) D.mapOf k
noncomputable def nonE{α:Type}:List α->Bool
 | []=>false
 | _::_=>true
theorem y_dict(m:(n,O.dict es)∈L)(h:es.length<=1000000)(q:P (nonE es) fr L):HTr (.ref n) fr L P E:=to1 q λw u rx=>eJ w.now.rel m rx λa ob kvs ea e _ D er =>
 .tok (show(!kvs.isEmpty)=nonE es from by cases er<;>rfl).symm λk=>lw<|wpAny_truthy_dict (w.now.rel.notSys ea) D (by rw[er.len];lia) k
theorem qa{A:Around}{P X:Value->Shared->Prop}{s:Shared}{vs:List Value}{ad:Addr}{n:Nat}{k:Int}{t:Tok}{j:Nat}{x:Value}(e:s.heap.get? ad=some (aM vs n))(i:iX k vs.length=some j)(hy:vs[j]?=some x)(q:P x s):
  k9 A (.ref ad) (.int k t) P X s:=by
 exists t e i hy q,zA A,aN P,aN X,zS s,zL vs,zN ad,zN n,zI k,zN j,zV x;obtain⟨b1,b2,b3⟩:=cD i;refine⟨"list",_,⟨_,e,rfl⟩,slot_list_getitem.lookup,?_⟩;rcases b3 with⟨h0,rfl⟩|⟨h0,h1,rfl⟩
 .exact lw<|wpAny_getItem_list ⟨_,e,rfl,n,rfl⟩ h0 (by lia) (List.getElem?_toArray.trans hy) q
 .exact lw<|wpAny_getItem_list_neg ⟨_,e,rfl,n,rfl⟩ h0 h1 (by lia) (List.getElem?_toArray.trans hy) q
theorem x_list{l:List V}{j:Nat}(o:(n,O.list l)∈L)(h1:iX i l.length=some j)(h2:l[j]?=some a)(q:Q a fr L):HI (.ref n) (.int i) fr L Q E:=λg w u v r r' z=>bl r' λt=>bf w.now.rel o r λad ob ea e ⟨vs,k,eo,ra⟩ =>
 (ra.get h2).elim λx hx=>qa (eo▸e) (ra.len.symm▸h1) hx.1 (z.now hx.2 q)
theorem j3{l:List Nat}{j c:Nat}(h1:iX i l.length=some j)(h2:l[j]?=some c)(q:Q (.str [c]) fr L):HI (.str l) (.int i) fr L Q E:=λg w u v r r' z=>iY r λt=>bl r' λt'=>by
 have b1:=(cD h1).1;refine⟨"str",_,typeIs_str _ _ _,F.slot_str_getitem.lookup,lw<|PySem.P.getItem_str (c:=c) ?_ ?_ (z.toks (a:=.str [c]) vstr q)⟩
 .simp only[Bool.or_eq_false_iff,decide_eq_false_iff_not];omega
 .refine(?_:(seqIndex? i (l.toArray).size).bind _=_);rw[List.size_toArray,gU h1];exact List.getElem?_toArray.trans h2
theorem nX{l:List UInt8}{j:Nat}{c:UInt8}(h1:iX i l.length=some j)(h2:l[j]?=some c)(q:Q (.int c.toNat) fr L):HI (.bytes l) (.int i) fr L Q E:=λg w u v r r' z=>lz r λt=>bl r' λt'=>by
 have b1:=(cD h1).1;refine⟨"bytes",_,typeIs_bytes _ _ _,FB.slot_bytes_getitem.lookup,lw<|getItem_gives (typeIs_bytes w.y.s _ t) (by decide) FB.slot_bytes_getitem FB.entry_bytes_getitem (FB.args_bytes_getitem_2 _ _) (gives_bytes_getitem _ i t t' c ?_ ?_) (z.toks (a:=.int c.toNat) bq q)⟩
 .simp only[Builtin.Bytes.fitsIndex,Bool.and_eq_true,decide_eq_true_eq];omega
 .show(seqIndex? i l.length).bind _=_;rw[gU h1];exact List.getElem?_toArray.trans h2
theorem cM(o:(n,O.dict es)∈L)(h:b9 ai i es=some a)(q:Q a fr L):HI (.ref n) (.int i) fr L Q E:=λg w u v r r' z=>bl r' λt=>eJ w.now.rel o r λad ob kvs _ _ _ D er =>
 ((cT (eqI · i) er).get h).elim λx hx=>⟨"dict",_,D.typeIs,slot_dict_getitem.lookup,lw<|wpAny_getItem_of (intKind_is ..) D.mapOf hx.1 (z.toks (a:=a) (hx.2.mono (Yl.idle (.refl _))) q)⟩
theorem aT{cs:List Nat}(o:(n,O.sdict se)∈L)(h:b9 aF cs se=some a)(q:Q a fr L):HI (.ref n) (.str cs) fr L Q E:=λg w u v r r' z=>iY r' λt=>bf w.now.rel o r λad ob ea e ⟨kvs,D,_,er⟩ =>
 ((cT (c_ · cs) er).get h).elim λx hx=>⟨"dict",_,(D _ _ e).typeIs,slot_dict_getitem.lookup,lw<|wpAny_getItem_of (strKind_is ..) (D _ _ e).mapOf hx.1 (z.toks (a:=a) (hx.2.mono (Yl.idle (.refl _))) q)⟩
end
end
section
theorem ints_vs{y:Y}{vs:List Value}{ns:List Int}(h:IntsAre vs ns):VsRel y (ns.map V.int) vs:=by
 induction h with
 | nil=>exact .nil
 | cons i t r ih=>exact .cons (λ_ _=>⟨t,rfl⟩) ih
theorem bs_list:∃vs k,Bs.get? jc=some (aM vs k)/\∀y,VsRel y (sInts.map V.int) vs:=by
 obtain⟨vs,n,e,r⟩:=wit.list;refine⟨vs,n,(Heap.get?_update_other _ _ λz=>?_).trans e,λy=>ints_vs r⟩;rw[show wit.b=731 from z.symm,wit.keep _ _ (hV _)] at e;cases e
section
variable {fr:Fr} {L L':Hp} {E:Hd->Fr->Hp->Prop} {n m:Hd} {i:Int} {Q:V->Fr->Hp->Prop} {P:Unit->Fr->Hp->Prop} {a u v x lo hi:V} {p q:Option Int}
theorem set_list{A:Around}{X:Value->Shared->Prop}{s:Shared}{ad:Addr}{vs:List Value}{n:Nat}{k:Int}{t:Tok}{j:Nat}{v:Value}{Q:Unit->Shared->Prop}(ho:s.heap.get? ad=some (aM vs n))(i:iX k vs.length=some j)
  (h:∀h' m,h'.get? ad=some (aM (vs.set j v) m)->Heap.SameBut ad s.heap h'->Q () {s with heap:=h'}):wpAny M A (setItem (.ref ad) (.int k t) v) Q X s:=by
 exists t ho i h,zA A,aN X,zS s,zN ad,zL vs,zN n,zI k,zN j,zV v,aN Q;refine nn λno=>?_;obtain⟨b1,b2,b3⟩:=cD i;refine no ?_;have fin:∀j,(∀h' m,h'.get? ad=some (aM (vs.set j v) m)->Heap.SameBut ad s.heap h'->Q () {s with heap:=h'})->Q () {s with heap:=s.heap.update ad (Obj.mapSeq (·.setIfInBounds j v))}:=λj h=>by
  refine nn λno=>?_;obtain⟨m,e⟩:∃m,Obj.mapSeq (·.setIfInBounds j v) (aM vs n)={cls:=.type "list",data:=.seq (vs.toArray.setIfInBounds j v) m}:=⟨_,rfl⟩;refine no ?_;refine h _ m ?_ (qY ..);rw[r5 _ ho (by rw[e];rfl),e,List.setIfInBounds_toArray]
 rcases b3 with⟨h0,rfl⟩|⟨h0,h1,rfl⟩
 .exact lw<|ki_setAt ho h0 (by lia) (by simp only[List.size_toArray];lia) (fin _ h)
 .exact lw<|ki_setBack ho h0 (by simpa using h1) (by lia) (by have:=fin _ h;simpa using this)
theorem lZ{l:List V}{j:Nat}(ch:Chg L n (.list l) (.list (l.set j x)) L')(h1:iX i l.length=some j)(q:P () fr L'):UI (.ref n) (.int i) x fr L P E:=λg w o' j' u' r r' rw' z=>bl r' λt=>bf w.now.rel ch.mem r λad ob ea e ⟨vs,k,eo,ra⟩=>by
 subst eo;exact set_list e (ra.len.symm▸h1) λh' mm e' sb=>z.upd (t:=w.y.s.toks) ch ea e sb rfl nofun e' (λy' yl=>⟨_,mm,rfl,All2.set (VRel.mono ((Yl.but e sb rfl nofun).trans yl) rw') (VsRel.mono ((Yl.but e sb rfl nofun).trans yl) ra) j⟩) (u:=()) trivial q
theorem dA{es:List (Int×V)}(ch:Chg L n (.dict es) (.dict (cH ai i x es)) L')(h0:es.length<=1000000)(q:P () fr L'):UI (.ref n) (.int i) x fr L P E:=λg w o' j' u' r r' rw' z=>bl r' λt=>eJ w.now.rel ch.mem r λad ob kvs ea e hd D er=>by
 refine nn λno=>?_;obtain⟨ob',eso,epo,g1,g2,g3,g4,g5,g6⟩:=id D;refine no ?_;have hi:bS ob=false:=by
  refine nn λno=>?_;obtain⟨a,b,hd⟩:=hd;refine no ?_;unfold bS;rw[hd];cases ob.cls<;>rfl
 have hf:∀vs,ob.data≠.fields vs:=λvs z=>hd.elim λa h=>h.elim λb h=>by rw[h] at z;cases z
 refine lw<|wpAny_setItem_pairs (intKind_is ..) D (λh' D' sb=>?_) (by have:=er.len;simp only[sizeLine];lia);refine nn λno=>?_;obtain⟨uu,rN,u7,u8⟩:=jm D';refine no ?_;exact z.upd (t:=w.y.s.toks+1) ch ea e sb hi hf rN (λy' yl=>⟨_,u7,u8,All2.mono (λ_ _ q=>⟨q.1,q.2.mono ((Yl.but e sb hi hf).trans yl)⟩) (gA (k:=i) (eqI · i) rw' er g6)⟩) (u:=()) trivial q
theorem u_barr{b:List UInt8}{j:Nat}{z:Int}{c:UInt8}(ch:Chg L n (.barr b) (.barr (b.set j c)) L')(h0:b.length<=1000000)(h1:iX i b.length=some j)(h2:cg z=some c)(q:P () fr L'):UI (.ref n) (.int i) (.int z) fr L P E:=λg w o' j' u' r r' rw' zz=>bl r' λt=>bl rw' λt'=>bf w.now.rel ch.mem r λad ob ea e eo=>by
 cases eo;exact l_bset e (len_eq b▸h1) h2 h0 λh' e' sb t=>zz.upd (t:=t) ch ea e sb rfl nofun e' (λy' yl=>show ak _=ak _ by rw[jG]) (u:=()) trivial q
inductive IsP:V->Option Int->Prop
 | non:IsP .non none
 | int (i:Int):IsP (.int i) (some i)
theorem IsP.part{y:Y}{v:V}{u:Value}(h:IsP v p)(r:VRel y v u):IsPart u p:=by
 cases h with
 | non=>cases r.now;exact .none
 | int i=>exact bl r λt=>.int i t
theorem z_str{l:List Nat}(h1:l.length<=1000000)(p1:IsP lo p)(p2:IsP hi q)(k:Q (.str (bG p q l)) fr L):HZ (.str l) lo hi .non fr L Q E:=λg w u l h s sl r rl rh rs hs z=>iY r λt=>by
 refine nn λno=>?_;cases rs.now;refine no ?_;exact⟨"str",_,typeIs_str _ _ _,F.slot_str_getitem.lookup,l_str hs (p1.part rl) (p2.part rh) h1 λt n=>z.toks (a:=.str (bG p q _)) vstr k⟩
theorem vs_cut{y:Y}{us:List V}{vs:List Value}(r:VsRel y us vs):VsRel y (bG p q us) (bG p q vs):=by
 unfold bG cut;refine(r.len).symm▸?_;exact(r.take _).drop _
theorem oo{g:G}{w:Wn g fr L}{o:Obj}{k:Hd}{t:Nat}(e:w.y.θ k=none):Yl w.y (w.y.plus k w.y.h.objs.size (w.y.h.push o) t):=Yl.plus (S:=(·=w.y.h.objs.size)) w.nown e ((Idle.push _ _).side λ_ z=>qU z.symm)
theorem iq{g:G}{w:Wn g fr L}{l:List V}{a sl:Addr}{vs:List Value}{j:Nat}{lv hv:Value}(h1:l.length<=1000000)(p1:IsP lo p)(p2:IsP hi q)(k:Al (.list (bG p q l)) L λn L=>Q (.ref n) fr L)(e:w.y.h.get? a=some (aM vs j))(ra:VsRel w.y l vs)(rl:VRel w.y lo lv)(rh:VRel w.y hi hv)(hs:w.y.h.IsSliceOf sl lv hv .none)(z:Fz VRel w Q E):k9 g.A (.ref a) (.ref sl) z.P z.X w.y.s :=
 ⟨"list",_,⟨_,e,rfl⟩,slot_list_getitem.lookup,mw e hs (p1.part rl) (p2.part rh) (ra.len▸h1) (z.push rfl k λm em y' yl=>⟨_,0,rfl,VsRel.mono ((oo em).trans yl) (vs_cut ra)⟩)⟩
theorem z_list{l:List V}(m:(n,O.list l)∈L)(h1:l.length<=1000000)(p1:IsP lo p)(p2:IsP hi q)(k:Al (.list (bG p q l)) L λn L=>Q (.ref n) fr L):HZ (.ref n) lo hi .non fr L Q E:=λg w u l h s sl r rl rh rs hs z=>bf w.now.rel m r λa ob ea e ⟨vs,j,eo,ra⟩=>by
 refine nn λno=>?_;cases rs.now;refine no ?_;exact iq h1 p1 p2 k (eo▸e) ra rl rh hs z
theorem z_top(h1:sInts.length<=1000000)(p1:IsP lo p)(p2:IsP hi q)(k:Al (.list (bG p q (sInts.map V.int))) L λn L=>Q (.ref n) fr L):HZ (.top jc) lo hi .non fr L Q E:=λg w u l h s sl r rl rh rs hs z=>by
 cases rs.now;cases r.now;refine nn λno=>?_;obtain⟨vs,j,e,ra⟩:=bs_list;refine no ?_;exact iq (by rw[qG];exact h1) p1 p2 k (w.now.rel.up.keep _ _ e) (ra _) rl rh hs z
theorem lV{l:List UInt8}(m:(n,O.barr l)∈L)(h1:l.length<=1000000)(p1:IsP lo p)(p2:IsP hi q)(k:Al (.barr (bG p q l)) L λn L=>Q (.ref n) fr L):HZ (.ref n) lo hi .non fr L Q E:=λg w u l h s sl r rl rh rs hs z=>bf w.now.rel m r λa ob ea e eo=>by
 refine nn λno=>?_;cases rs.now;cases eo;refine no ?_;exact kT e hs (p1.part rl) (p2.part rh) h1 λt=>z.push rfl k λm em y' yl=>rfl
theorem All2.rev{α β:Type}{R:α->β->Prop}{l:List α}{l':List β}(h:All2 R l l'):All2 R l.reverse l'.reverse:=h.rec .nil λx _ r=>by rw[List.reverse_cons,List.reverse_cons];exact r.app (.cons x .nil)
theorem z_rev{l:List V}(m:(n,O.list l)∈L)(h1:l.length<=1000000)(k:Al (.list l.reverse) L λn L=>Q (.ref n) fr L):HZ (.ref n) .non .non (.int (-1)) fr L Q E:=λg w u l h s sl r rl rh rs hs z=>bf w.now.rel m r λa ob ea e ⟨vs,j,eo,ra⟩=>by
 subst eo;refine nn λno=>?_;cases rl.now;cases rh.now;obtain⟨t,rfl⟩:=rs.now;refine no ?_;exact⟨"list",_,⟨_,e,rfl⟩,slot_list_getitem.lookup,l_rev e hs (ra.len▸h1) (z.push rfl k λm em y' yl=>⟨vs.reverse,0,rfl,All2.rev (VsRel.mono ((oo em).trans yl) ra)⟩)⟩
theorem gI{b c:List UInt8}{s t:Nat}(ch:Chg L n (.barr b) (.barr (b.take s++(c++b.drop t))) L')(h0:b.length<=1000000)(p1:IsP lo p)(p2:IsP hi q)(h1:s=p.elim 0 (clipAt b.length))(h2:t=q.elim b.length (clipAt b.length))(h3:s+c.length=t)(k:P () fr L'):
  UZ (.ref n) lo hi (.bytes c) fr L P E:=λg w u l h z sl r rl rh rw' hs zz=>bf w.now.rel ch.mem r λa ob ea e eo=>lz rw' λtk=>by
 refine nn λno=>?_;cases eo;refine no ?_;refine l_bslice e hs (p1.part rl) (p2.part rh) h1 h2 h3 h0 λrC h' k1 k2 g' sb t'=>?_;have i:Idle w.y.h rC:=⟨k1,k2⟩;exact(zz.mv (w':=w.idle i t') (Le.idle i t')).upd (t:=t') ch ea (k1 _ _ e) sb rfl nofun g' (λy' yl=>rfl) (u:=()) trivial k
end
end
section
theorem fromb_ok:findCls KF (.type "int") (.type "type") (PySem.Str.ofString "from_bytes")=some (.get (.builtin "classmethod_descriptor.__get__") (.builtin "int.from_bytes") .none (.type "int")):=by rfl'
theorem excI_ok:findCls KF (.type "Exception") (.type "type") (PySem.Str.ofString "__init__")=some (.val (.builtin "Exception.__init__")):=by rfl'
theorem fD{id:String}{h:Heap}:d9 (.builtin id) h:=⟨.machine,.inr (.inl rfl),Looks.of_pure rfl⟩
theorem q8{id:String}{h:Heap}:d9 (.type id) h:=⟨.machine,.inr (.inl rfl),Looks.of_pure rfl⟩
theorem ig{x:Addr}{h:Heap}(e:h.get? x=some fT):d9 (.ref x) h:=⟨.machine,.inr (.inl rfl),λ{A Q E s} k q=>by
 exact qA (PySem.wpAny_load (k _ _ e) (qB q))⟩
section
variable {fr:Fr} {L L':Hp} {d:Nat} {hd:Bool} {E:Hd->Fr->Hp->Prop} {n m:Hd} {i:Int} {Q:V->Fr->Hp->Prop} {N:Mt->Fr->Hp->Prop} {x u v:V}
theorem vref{y:Y}{a:Addr}(e:y.θ n=some a):VRel y (.ref n) (.ref a):=λy' k=>⟨a,rfl,k.th _ _ e⟩
theorem bM{as:List V}(m:(n,O.list as)∈L)(q:N (.bi 0 [.ref n]) fr L):qz (.ref n) 0 fr L N E:=λg w u pl r z=>bf w.now.rel m r λa ob ea e ⟨vs,j,eo,_⟩=>by
 subst eo;exact m_listL e (z.now (a:=.bi 0 [.ref n]) ⟨rfl,.cons (vref ea) .nil⟩ q)
theorem mc_appB{bs:List UInt8}(m:(n,O.barr bs)∈L)(q:N (.bi 5 [.ref n]) fr L):qz (.ref n) 0 fr L N E:=λg w u pl r z=>bf w.now.rel m r λa ob ea e eo=>by
 cases eo;exact m_barrL e (z.now (a:=.bi 5 [.ref n]) ⟨rfl,.cons (vref ea) .nil⟩ q)
theorem mc_get{es:List (Int×V)}(m:(n,O.dict es)∈L)(q:N (.bi 1 [.ref n]) fr L):qz (.ref n) 1 fr L N E:=λg w u pl r z=>eJ w.now.rel m r λa ob kvs ea e _ D er=>by
 refine nn λno=>?_;obtain⟨o,es,ep,e,f1,f2,f3⟩:=D;refine no ?_;exact oM e f1.1 f1.2.1 (z.now (a:=.bi 1 [.ref n]) ⟨rfl,.cons (vref ea) .nil⟩ q)
theorem mc_join(q:N (.bi 2 [.bytes []]) fr L):qz (.bytes []) 2 fr L N E:=λg w u pl r z=>lz r λt=>m_joinL rfl (z.now (a:=.bi 2 [.bytes []]) ⟨rfl,.cons lY .nil⟩ q)
theorem mJ(q:N (.bi 3 [.int i]) fr L):qz (.int i) 3 fr L N E:=λg w u pl r z=>bl r λt=>m_tobL rfl (z.now (a:=.bi 3 [.int i]) ⟨rfl,.cons bq .nil⟩ q)
theorem jR(q:N .frb fr L):qz (.ty 5) 4 fr L N E:=λg w u pl r z=>by
 cases r.now;exact lw<|m_frombK w.now.rel.up.kin fromb_ok λt=>z.idle (a:=.frb) (Idle.push _ _) ⟨_,rfl,qK _ rfl,w.nown _ rfl,(Wn.far (w₀:=w) (qW _)).1,w.now.rel.up.size⟩ q
theorem mc_exi(q:N (.bi 4 []) fr L):qz (.ty 6) 5 fr L N E:=λg w u pl r z=>by
 cases r.now;exact lw<|m_excK w.now.rel.up.kin excI_ok λt=>z.toks (a:=.bi 4 []) ⟨rfl,.nil⟩ q
variable {us vs:List V}
theorem ie{j:Nat}(h:∀{g:G} (w:Wn g fr L) {ps as:List Value},g.hd=hd->VsRel w.y us ps->VsRel w.y vs as->∀z:Fz VRel w Q E,wpAny M g.A (call (.builtin (mbN j)) (ps++as)) z.P z.X w.y.s):pE d hd (.bi j us) vs fr L Q E:=λg w p as e1 e2 rm ra z=>by
 obtain⟨f,ps⟩:=p;obtain⟨rfl,r⟩:=rm;exact⟨fD,h w e2 r ra z⟩
@[elab_as_elim] theorem one{C:List Value->Prop}{y:Y}{a:V}{l:List Value}(r:VsRel y [a] l)(f:∀x,VRel y a x->C [x]):C l:=by cases r with|cons x r=>cases r;exact f _ x
@[elab_as_elim] theorem two{C:List Value->Prop}{y:Y}{a b:V}{l:List Value}(r:VsRel y [a,b] l)(f:∀x z,VRel y a x->VRel y b z->C [x,z]):C l:=by cases r with|cons x r=>cases r with|cons z r=>cases r;exact f _ _ x z
theorem cb{as:List V}(ch:Chg L n (.list as) (.list (as++[x])) L')(hl:as.length<=1000000)(q:Q .non fr L'):pE d hd (.bi 0 [.ref n]) [x] fr L Q E:=ie λw ps as' _ r ra z=>one r λv rn=>one ra λu rw=>bf w.now.rel ch.mem rn λa ob ea e ⟨vs,j,eo,rs⟩=>by
 subst eo;exact jq e (rs.len▸hl) λh' k m sb ho=>z.upd ch ea e sb rfl nofun ho (λy' yl=>⟨_,m,rfl,(VsRel.mono ((Yl.but e sb rfl nofun).trans yl) rs).app (.cons (rw.mono ((Yl.but e sb rfl nofun).trans yl)) .nil)⟩) jA q
theorem k_appB{bs:List UInt8}{b:UInt8}(ch:Chg L n (.barr bs) (.barr (bs++[b])) L')(hl:bs.length<=1000000)(q:Q .non fr L'):pE d hd (.bi 5 [.ref n]) [.int b.toNat] fr L Q E:=ie λw ps as' _ r ra z=>one r λv rn=>one ra λu rw=>bf w.now.rel ch.mem rn λa ob ea e eo=>by
 cases eo;exact bl rw λt=>nj e hl λh' k sb ho=>z.upd ch ea e sb rfl nofun ho (λy' yl=>rfl) jA q
theorem OptR.getD{y:Y}{o:Option V}{p:Option Value}{x:Value}(f:OptR y o p)(h:VRel y u x):VRel y (o.getD u) (p.getD x):=by
 cases o<;>cases p<;>first|exact h|exact f|exact f.elim
theorem k_get{es:List (Int×V)}(m:(n,O.dict es)∈L)(q:Q ((b9 ai i es).getD u) fr L):pE d hd (.bi 1 [.ref n]) [.int i,u] fr L Q E:=ie λw ps as' _ r ra z=>one r λv rn=>two ra λk x ri rx=>eJ w.now.rel m rn λa ob kvs ea e _ D er=>bl ri λt =>
 c_getL D (w.now.rel.notSys ea) (intKind_is ..) λk=>z.toks ((cT (k:=i) (eqI · i) er).getD rx).tok q
theorem mc_getS{es:List (List Nat×V)}(m:(n,O.sdict es)∈L)(q:N (.bi 1 [.ref n]) fr L):qz (.ref n) 1 fr L N E:=λg w u pl r z=>bf w.now.rel m r λa ob ea e ⟨kvs,D,_,er⟩=>by
 refine nn λno=>?_;obtain⟨o,es,ep,e,f1,f2,f3⟩:=D _ _ e;refine no ?_;exact oM e f1.1 f1.2.1 (z.now (a:=.bi 1 [.ref n]) ⟨rfl,.cons (vref ea) .nil⟩ q)
theorem k_getS{es:List (List Nat×V)}{cs:List Nat}(m:(n,O.sdict es)∈L)(q:Q ((b9 aF cs es).getD u) fr L):pE d hd (.bi 1 [.ref n]) [.str cs,u] fr L Q E:=ie λw ps as' _ r ra z=>one r λv rn=>two ra λk x ri rx=>bf w.now.rel m rn λa ob ea e ⟨kvs,D,_,er⟩=>iY ri λt =>
 c_getL (D _ _ e) (w.now.rel.notSys ea) (strKind_is ..) λk=>z.toks ((cT (c_ · cs) er).getD rx).tok q
theorem k_toB(h0:0<=i)(h1:i<2 ^ 32)(q:Q (.bytes (f5 4 i.toNat)) fr L):pE d hd (.bi 3 [.int i]) [.int 4,.str [108,105,116,116,108,101]] fr L Q E:=ie λw ps as' _ r ra z=>one r λv rn=>two ra λk x ri rx=>bl rn λt=>bl ri λt=>iY rx λt=>c_tobL h0 h1 λt k=>z.toks (a:=.bytes (f5 4 i.toNat)) lY q
theorem k_toN{n:Nat}(e:i=(n:Int))(h:n<2 ^ 32)(q:Q (.bytes (f5 4 n)) fr L):pE d hd (.bi 3 [.int i]) [.int 4,.str [108,105,116,116,108,101]] fr L Q E:=by
 subst e;exact k_toB (Int.natCast_nonneg n) (Int.ofNat_lt.mpr h) q
theorem k_ofB{bs:List UInt8}(h1:bs.length=4)(q:Q (.int (bn bs)) fr L):pE d hd .frb [.bytes bs,.str [108,105,116,116,108,101]] fr L Q E:=λg w p as e1 e2 rm ra z=>by
 obtain⟨a,rfl,e,_⟩:=rm;exact⟨ig e,two ra λk x ri rx=>lz ri λt=>iY rx λt=>c_frombL e h1 λt k=>z.toks (a:=.int (bn bs)) bq q⟩
theorem kb{j:Nat}(h:∀{g:G} (w:Wn g fr L) {as:List Value},g.hd=hd->VsRel w.y vs as->∀z:Fz VRel w Q E,wpAny M g.A (call (.builtin (biN j)) as) z.P z.X w.y.s):HK d hd (.bi j) vs fr L Q E:=λg w gv as e1 e2 r ra z=>by
 cases r.now;exact⟨fD,h w e2 ra z⟩
theorem kt{j:Nat}(h:∀{g:G} (w:Wn g fr L) {as:List Value},g.hd=hd->VsRel w.y vs as->∀z:Fz VRel w Q E,wpAny M g.A (call (.type (tyN j)) as) z.P z.X w.y.s):HK d hd (.ty j) vs fr L Q E:=λg w gv as e1 e2 r ra z=>by
 cases r.now;exact⟨q8,h w e2 ra z⟩
theorem gh{as:List V}(m:(n,O.list as)∈L)(h0:as.length<=1000000)(q:Q (.int as.length) fr L):HK d hd (.bi 0) [.ref n] fr L Q E:=kb λw as' _ r z=>one r λv rv=>bf w.now.rel m rv λa ob ea e ⟨vs,j,eo,rs⟩=>by
 subst eo;exact len_list e (rs.len▸h0) λt k=>z.toks (a:=.int as.length) (rs.len▸bq) q
theorem f_lenB{bs:List UInt8}(m:(n,O.barr bs)∈L)(h0:bs.length<=1000000)(q:Q (.int bs.length) fr L):HK d hd (.bi 0) [.ref n] fr L Q E:=kb λw as' _ r z=>one r λv rv=>bf w.now.rel m rv λa ob ea e eo=>by
 cases eo;exact len_barr e h0 λt k=>z.toks (a:=.int bs.length) bq q
theorem dI{bs:List UInt8}(h0:bs.length<=1000000)(q:Q (.int bs.length) fr L):HK d hd (.bi 0) [.bytes bs] fr L Q E:=kb λw as' _ r z=>one r λv rv=>lz rv λt=>len_bytes h0 λt k=>z.toks (a:=.int bs.length) bq q
theorem eV{b:Int}(q:Q (.rng 0 b) fr L):HK d hd (.ty 0) [.int b] fr L Q E:=kt λw as' _ r z=>one r λv rv=>bl rv λt=>l_range1 λD h' k t u v hi hr=>z.idle (a:=.rng 0 b) hi (λy' yl=>⟨_,rfl,_,_,_,yl.imm _ _ hr rfl⟩) q
theorem jX{a b:Int}(q:Q (.rng a b) fr L):HK d hd (.ty 0) [.int a,.int b] fr L Q E:=kt λw as' _ r z=>two r λv v' rv rv'=>bl rv λt=>bl rv' λt=>l_range2 λD h' k t u v hi hr=>z.idle (a:=.rng a b) hi (λy' yl=>⟨_,rfl,_,_,_,yl.imm _ _ hr rfl⟩) q
theorem gW{as:List V}(m:(n,O.list as)∈L)(h0:as.length<=1000000)(q:Al (.list as) L λm L=>Q (.ref m) fr L):HK d hd (.ty 1) [.ref n] fr L Q E:=kt λw as' _ r z=>one r λv rv=>bf w.now.rel m rv λa ob ea e ⟨vs,j,eo,rs⟩=>by
 subst eo;exact l_listL e (rs.len▸h0) λD h' k m hi hD ho=>z.made hi hD ho q λmm em y' yl=>⟨vs,m,rfl,VsRel.mono ((Yl.plus (S:=(·=D)) (λb z o=>absurd (w.now.rel.lt _ o) (Nat.not_lt.mpr (z▸hD))) em (hi.side λb z=>z▸hD)).trans yl) rs⟩
theorem f_ba0(q:Al (.barr []) L λm L=>Q (.ref m) fr L):HK d hd (.ty 2) [] fr L Q E:=kt λw as' _ r z=>by
 cases r;exact l_barr0 λD h' k hi hD ho=>z.made hi hD ho q λmm em y' yl=>rfl
theorem f_baN{j:Nat}(h1:j<=65536)(q:Al (.barr (List.replicate j 0)) L λm L=>Q (.ref m) fr L):HK d hd (.ty 2) [.int j] fr L Q E:=kt λw as' _ r z=>one r λv rv=>bl rv λt=>l_barrI h1 λD h' k hi hD ho=>z.made hi hD ho q λmm em y' yl=>rfl
theorem f_baA{bs:List UInt8}(h0:bs.length<=1000000)(q:Al (.barr bs) L λm L=>Q (.ref m) fr L):HK d hd (.ty 2) [.bytes bs] fr L Q E:=kt λw as' _ r z=>one r λv rv=>lz rv λt=>oQ h0 λD h' k hi hD ho=>z.made hi hD ho q λmm em y' yl=>rfl
theorem f_baR{bs:List UInt8}(m:(n,O.barr bs)∈L)(h0:bs.length<=1000000)(q:Al (.barr bs) L λm L=>Q (.ref m) fr L):HK d hd (.ty 2) [.ref n] fr L Q E:=kt λw as' _ r z=>one r λv rv=>bf w.now.rel m rv λa ob ea e eo=>by
 cases eo;exact l_barrA e h0 λD h' k hi hD ho=>z.made hi hD ho q λmm em y' yl=>rfl
theorem lp{bs:List UInt8}(m:(n,O.barr bs)∈L)(h0:bs.length<=1000000)(q:Q (.bytes bs) fr L):HK d hd (.ty 3) [.ref n] fr L Q E:=kt λw as' _ r z=>one r λv rv=>bf w.now.rel m rv λa ob ea e eo=>by
 cases eo;exact l_bytesA e h0 λt h' k hi=>z.idle (a:=.bytes bs) hi lY q
end
end
section
section
variable {fr:Fr} {L L':Hp} {d:Nat} {hd:Bool} {E:Hd->Fr->Hp->Prop} {n:Hd} {Q:V->Fr->Hp->Prop} {P:Unit->Fr->Hp->Prop} {x:V} {C a:Nat}
theorem dh{y y':Y}{b:Bool}{C C':Addr}{ad ad':Option Addr}{vs:Array Value}{T:Value}(x:ExcOb y C ad b {cls:=.ref C',dict:=ad',data:=.fields vs}):ExcOb y C ad b {cls:=.ref C',dict:=ad',data:=.fields (vs.setIfInBounds 0 T)}:=by
 revert x;revert y y' b C C' ad ad' vs T;refine @al9 _ _ _ _ _ _ _ _ _ zY zY zB zN zN zO zO za zV ?P ((?f:∀a b c d e f g h i,?P a b c d e f g h i) _ _ _ _ _ _ _ _ _);intro y y' b C C' ad ad' vs T x;cases x with
 | mk vs t z h2 h1 hb ht=>exact⟨_,t,by rw[Array.size_setIfInBounds];exact z,by rw[Array.getElem?_setIfInBounds_ne (by decide)];exact h2,by rw[Array.getElem?_setIfInBounds_ne (by decide)];exact h1,hb,ht⟩
theorem exc_ob{y:Y}{C:Addr}{ad:Option Addr}{b:Bool}{ob:Obj}(x:ExcOb y C ad b ob):∃vs,6<=vs.size/\ob={cls:=.ref C,dict:=ad,data:=.fields vs}:=by cases x with|mk vs t z=>exact⟨vs,z,rfl⟩
theorem no_tb{y:Y}{a C:Addr}{ad:Option Addr}{vs:Array Value}(e:y.h.get? a=some {cls:=.ref C,dict:=ad,data:=.fields vs})(k:TbAt y a):False:=by
 obtain⟨o,ts,ow,e2,c,r⟩:=k;cases e.symm.trans e2;cases c
theorem k_exi{dd:Option Hd}(m:(n,O.exc C dd)∈L)(q:Q .non fr L):pE d hd (.bi 4 []) [.ref n,x] fr L Q E:=ie λw ps as' _ r ra z=>by
 cases r;exact two ra λu v rn rx=>bf w.now.rel m rn λa ob ea e ⟨ad,X,_,hx⟩=>by
  refine nn λno=>?_;obtain⟨vs,hz,rfl⟩:=exc_ob X;refine no ?_;refine fP hx λkc hk hz'=>ni w.now.rel.up.kin ((cF _ kc hk).exc hz').1 e hz λrC h' T k hi sb ho=>?_;have oa:=w.now.rel.sub _ _ ea;refine nn λno=>?_;obtain⟨w',e',l'⟩:=(w.idle hi w.y.s.toks).turn (t:=k) (h':=h') oa (hi.keep _ _ e) rfl sb ho (λt=>(no_tb (hi.keep _ _ e) t).elim) (λ_ _ _ x yl=>(dh (y':=w.y) x).mono yl)
   λyl p y' yl' r=>mG r rfl λC d ad x z h=>⟨ad,dh (y':=y') x,z,h⟩
  refine no ?_;have:=z.ok w' .non .none ((Le.idle hi w.y.s.toks).trans l') jA q;rw[e'] at this;exact this
theorem lu{y y':Y}{b:Bool}{C':Addr}{ad ad' D:Option Addr}{vs:Array Value}{c:Addr}(yl:Yl y y')(x:ExcOb y C' ad b {cls:=.ref c,dict:=ad',data:=.fields vs}):ExcOb y' C' D b {cls:=.ref c,dict:=D,data:=.fields vs}:=by
 exists yl x,zY y,zY y',zB b,zN C',zO ad,zO ad',zO D,za vs,zN c;cases x with
 | mk vs t z h2 h1 hb ht=>exact⟨vs,t,z,h2,h1,hb,ht.imp id λ⟨T,e,k⟩=>⟨T,e,yl.tb T k⟩⟩
theorem Wn.dicted{g:G}(w:Wn g fr L){xa D:Addr}{m:Hd}{vs:Array Value}{h':Heap}{t:Nat}(ch:Chg L n (.exc C none) (.exc C (some m)) L')(ea:w.y.θ n=some xa)(eo:w.y.h.get? xa=some {cls:=.ref C,data:=.fields vs})(sb:Heap.SameBut xa w.y.h h')(g':h'.get? xa=some {cls:=.ref C,dict:=some D,data:=.fields vs})(em:w.y.θ m=some D)(hx:eW C=true)(X:ExcOb w.y C none false {cls:=.ref C,data:=.fields vs}):
  ∃w':Wn g fr L',w'.y=w.y.to h' t/\Le w w':=by
 have oa:=w.now.rel.sub _ _ ea;have yl:Yl w.y (w.y.to h' t):=⟨λ_ _ e=>e,λb p e i=>(sb.2 b λz=>by rw[z,eo] at e;cases e;cases i).trans e,λT x=>x.to (λ_ e=>e) λo e _=>(sb.2 T λz=>(no_tb (y:=w.y) eo (z▸x)).elim).trans e⟩;have m':Mv (dH g.l) none w.y (w.y.to h' t):=⟨yl,rfl,rfl,qU sb.1.symm,λ_ z=>z,λ_ z=>.inl z,λb C ad q _ ⟨ob,e,x⟩=>by
   by_cases z:b=xa
   .rw[z,eo] at e;cases e;exact⟨some D,_,z▸g',lu yl x⟩
   .exact⟨ad,ob,(sb.2 b z).trans e,x.mono yl⟩,λb o _ e n _ _=>(sb.2 b λz=>n (z▸oa)).trans e,λb _ _ n o e=>⟨o.slots,(sb.2 b λz=>n (z▸oa)).trans e⟩⟩
 exact⟨⟨_,w.now.step m' (w.now.rel.upd ch ea sb yl g' λy' yl'=>⟨some D,lu (yl.trans yl') X,yl'.th _ _ em,hx⟩)⟩,rfl,m'.weak⟩
theorem o0{l r:Hp}(e:L=l++(n,.exc C none)::r)(h:fK C a=true)(q:∀k,P () fr ((.s k,.ns [(a,x)])::(l++(n,.exc C (some (.s k)))::r))):UA (.ref n) a x fr L P E:=by
 exists e h q,zF fr,zL L,aK E,zh n,aK P,zv x,zN C,zN a,zL l,zL r;intro g w u xv rn rx z;have mm:(n,O.exc C none)∈L:=by rw[e];exact qO _ (.head _)
 refine bf w.now.rel mm rn λxa ob ex e1 ⟨ad,X,e2,hx⟩=>?_;cases ad with
 | some _=>exact e2.elim
 | none =>
 refine nn λno=>?_;obtain⟨vs,hz,rfl⟩:=exc_ob X;refine no ?_;refine ip h λkc hk hm=>?_;have Z:=cF _ kc hk;refine nn λno=>?_;obtain⟨cd,hcd,hdd,hx',hi⟩:=Z.cd;refine no ?_;have z':kc.isExc=true:=fP hx λk' hk' z=>by cases hk.symm.trans hk';exact z
 refine qe w.now.rel.up.kin hcd hdd (hx' z') (Z.exc z').2.2 (Z.attr _ hm) Z.sa e1 λD h' tk en t' m' kp hD sz hd ek ev hx1=>?_;have sb:Heap.SameBut xa h' (h'.update xa λ_=>{cls:=.ref C,data:=.fields vs}):=qY ..;have self:(h'.update xa λ_=>{cls:=.ref C,data:=.fields vs}).get? xa=some {cls:=.ref C,data:=.fields vs}:=r5 _ hx1 rfl;have nD:D≠xa:=Nat.ne_of_gt (qL (qZ e1) hD);have i:Idle w.y.h (h'.update xa λ_=>{cls:=.ref C,data:=.fields vs}):=⟨λb o e=>(Classical.em (b=xa)).elim (λz=>by rw[z] at e ⊢;exact self.trans (e1.symm.trans e)) λz=>(sb.2 b z).trans (kp b o z e),qC sz (qU sb.1.symm)⟩;refine nn λno=>?_;obtain⟨m,rH,ro,rN,rA,em,k,rV,sd⟩:=w.made (x:=.ns [(a,x)]) (K:=λm rH=>∃k,m=.s k/\rH=(m,.ns [(a,x)])::L) tk i hD ((sb.2 D nD).trans hd) (.sym0 λk=>⟨k,rfl,rfl⟩) λm em y' yl=>⟨[en],m',rfl,.cons ⟨⟨t',ek⟩,ev▸rx.mono ((Yl.plus (S:=(·=D)) (λb z o=>absurd (w.now.rel.lt _ o) (Nat.not_lt.mpr (z▸hD))) em (i.side λb z=>z▸hD)).trans yl)⟩ .nil,show 1<=900 by decide⟩;have hy:ro.y.h=h'.update xa λ_=>{cls:=.ref C,data:=.fields vs}:=by rw[rN];rfl
 have yl:Yl w.y ro.y:=rA.toYl;obtain⟨rF,sf,rG⟩:=ro.dicted (n:=n) (C:=C) (m:=m) (t:=tk) (h':=h') (L':=(m,.ns [(a,x)])::(l++(n,.exc C (some m))::r)) ⟨(m,.ns [(a,x)])::l,r,by rw[sd,e];rfl,rfl⟩ (yl.th _ _ ex) (hy▸self) (hy▸⟨sb.1.symm,λb z=>(sb.2 b z).symm⟩) hx1 (by rw[rN];exact bX) hx (X.mono yl);refine no ?_;have:=z.ok rF () () (rA.trans rG) trivial (rV▸q k);rw[sf,rN] at this;exact this
end
end
section
noncomputable def hAt(A:Around):List Addr:=match A.handled with|some (.ref a)=>[a]|_=>[]
theorem l9{A:Around}{h h':Heap}(x:Hn A h)(k:∀b∈hAt A,∀o,h.get? b=some o->h'.get? b=some o):Hn A h':=λv e=>by
 refine nn λno=>?_;obtain⟨b,ob,vs,C,rfl,e2,r⟩:=x v e;refine no ?_;exact⟨b,ob,vs,C,rfl,k b (by unfold hAt;rw[e];exact .head _) _ e2,r⟩
set_option tactic.hygienic true in
theorem hAt_ne{A:Around}{h:Heap}(x:Hn A h){I:Addr}{o:Obj}{T:String}(e:h.get? I=some o)(hc:o.cls=.type T):I∉hAt A:=λm=>by
 unfold hAt at m;split at m
 .rename_i a e';rw[List.mem_singleton] at m;subst m;obtain⟨b,ob,vs,C,q,e2,e3,_⟩:=x _ e';cases q;rw[e] at e2;cases e2;rw[hc] at e3;cases e3
 .cases m
section
variable {A:Around} {E:Value->Shared->Prop} {s:Shared}
theorem kj(I ax:Addr)(hne:ax≠I)(items:Array Value):
  Walks prog w0 A I (I::ax::hAt A) [I] items.size (λi v=>items[i]?=some v) (λi h=>h.IsListIter I ax i/\h.IsList ax items/\Hn A h) where
 sub:=λb hb=>by simp at hb;simp[hb]
 frame:=λ_ _ _ st hk=>⟨st.1.at λo e=>hk I (by simp) o e,st.2.1.at λo e=>hk ax (by simp) o e,l9 st.2.2 λb hb o e=>hk b (by simp[hb]) o e⟩
 item:=λi s Q E hi st hQ=>by
  refine wpAny_pyNext_list_item st.1 st.2.1 (x:=items[i]) (by simp[hi]) λh' hit' hs'=>?_;refine nn λno=>?_;obtain⟨o,ho,hc,_⟩:=id st.1;refine no ?_;exact hQ _ h' s.toks (by simp[hi]) ⟨hit',st.2.1.extBut hs'.extBut hne,l9 st.2.2 λb hb o' e=>hs'.extBut b o' (λz=>hAt_ne st.2.2 ho hc (z▸hb)) e⟩ λb o hb e=>hs'.extBut b o (λh=>hb (by simp[h])) e
 done:=λs Q E st hQ=>ib st.2.2 st.1 st.2.1 (by simp) λh' g=>hQ h' s.toks λb o hb e=>g.1 b o (λh=>hb (by simp[h])) e
 self:=λ_ _ _ _ st hQ=>wpAny_pyIter_listiter st.1 hQ
set_option tactic.hygienic true in
theorem lM{xs:List (Int×Tok)}{i:Int}{l:List Int}(e:xs.map (·.1)=i::l):∀k,k<=l.length->numAt xs.toArray (argBest (λa b=>decide (numAt xs.toArray a > numAt xs.toArray b)) k)=(l.take k).foldl max i
 | 0,_=>by
  cases xs with
  | nil=>cases e
  | cons p xs=>have e1:=(List.cons.inj e).1;simp[argBest,numAt,e1]
 | k+1,h=>by
  have ih:=lM e k (by lia);have hk:numAt xs.toArray (k+1)=l[k]:=by
   have:(xs.map (·.1))[k+1]?=some l[k]:=by rw[e];simp
   rw[List.getElem?_map] at this;unfold numAt;rw[List.getElem?_toArray,this];rfl
  rw[List.take_add_one,List.getElem?_eq_getElem h];show _=(l.take k++[l[k]]).foldl max i;rw[List.foldl_append,<-ih,argBest];show _=max _ l[k];rw[Int.max_def];simp only[decide_eq_true_eq,hk];split
  .rename_i z;rw[hk,if_pos (Int.le_of_lt z)]
  .rename_i z;by_cases c:numAt xs.toArray (argBest (λa b=>decide (numAt xs.toArray a > numAt xs.toArray b)) k)=l[k]
   .rw[if_pos (Int.le_of_eq c),c]
   .rw[if_neg (by lia)]
set_option tactic.hygienic true in
theorem l_maxL{a:Addr}{i:Int}{l:List Int}{n:Nat}{Q:Value->Shared->Prop}(hn:Hn A s.heap){xs:List (Int×Tok)}(e:s.heap.get? a=some (aM (xs.map λp=>.int p.1 p.2) n))(e2:xs.map (·.1)=i::l)
  (q:∀t h' k,Idle s.heap h'->Q (.int (l.foldl max i) t) {s with heap:=h',toks:=k}):wpAny M A (call (.builtin "max") [.ref a]) Q E s:=by
 exists hn e e2 q,zA A,aN E,zS s,zN a,zI i,zL l,zN n,aN Q,zL xs;have hl:s.heap.IsList a (intItems xs.toArray):=⟨_,e,rfl,n,by simp[intItems]⟩;have hz:xs.length=l.length+1:=by rw[<-qG (f:=(·.1)),e2];rfl
 refine grown<|lw<|call_max_walk (iter_intList hl λry e' st hfp hlI=>?_);subst e';refine⟨_,_,_,_,_,_,_,rfl,kj (A:=A.in1) _ a hlI (intItems xs.toArray),⟨st.1,st.2,hn.keep λb o C e _=>qE _ e⟩,λb hb=>?_,by simp[intItems,hz],CmpOf.ints_gt (numAt xs.toArray) (λ_ _=>intItems_at),λv h' tk hP hk=>?_⟩
 .rcases List.mem_cons.mp hb with rfl|hb
  .exact hfp _ (.head _)
  .rcases List.mem_cons.mp hb with rfl|hb
   .exact hfp _ (.tail _ (.head _))
   .unfold hAt at hb;split at hb
    .rename_i a' e';rw[List.mem_singleton] at hb;subst hb;refine nn λno=>?_;obtain⟨b,ob,vs,C,q,e2,_⟩:=hn _ e';refine no ?_;cases q;exact qZ (qE _ e2)
    .cases hb
 .intro sz;refine nn λno=>?_;obtain⟨t,rfl⟩:=intItems_at hP;refine no ?_;have:(intItems xs.toArray).size - 1=l.length:=by simp[intItems,hz]
  refine(this).symm▸?_;refine(lM e2 _ (qW _)).symm▸?_;refine(List.take_length).symm▸?_;exact q t h' tk ⟨old_kept hk,sz⟩
theorem mK(i j:Int):max i j=if j > i then j else i:=by
 rw[Int.max_def];by_cases c:j > i
 .rw[if_pos c,if_pos (Int.le_of_lt c)]
 .rw[if_neg c];by_cases d:i<=j
  .rw[if_pos d];exact Int.le_antisymm (Int.not_lt.mp c) d
  .rw[if_neg d]
theorem l_max2{i j:Int}{t u:Tok}{Q:Value->Shared->Prop}(hh:A.handled=none)(q:∀t h' k,Idle s.heap h'->Q (.int (max i j) t) {s with heap:=h',toks:=k}):wpAny M A (call (.builtin "max") [.int i t,.int j u]) Q E s :=
 grown<|lw<|max_two_ints hh λh' tk hk sz=>by
  have h:=λt=>q t h' tk ⟨hk,sz⟩;rw[mK] at h;by_cases c:j > i
  .rw[if_pos c] at h ⊢;exact h u
  .rw[if_neg c] at h ⊢;exact h t
theorem l_min2{i j:Int}{t u:Tok}{Q:Value->Shared->Prop}(hh:A.handled=none)(q:∀t h' k,Idle s.heap h'->Q (.int (min i j) t) {s with heap:=h',toks:=k}):wpAny M A (call (.builtin "min") [.int i t,.int j u]) Q E s :=
 grown<|lw<|min_two_ints hh λh' tk hk sz=>by
  have h:=λt=>q t h' tk ⟨hk,sz⟩;rw[Int.min_def] at h;by_cases c:j<i
  .rw[if_neg (Int.not_le.mpr c)] at h;rw[if_pos c];exact h u
  .rw[if_pos (Int.not_lt.mp c)] at h;rw[if_neg c];exact h t
theorem l_max3{i j k:Int}{t u v:Tok}{Q:Value->Shared->Prop}(hh:A.handled=none)(q:∀t h' n,Idle s.heap h'->Q (.int (max (max i j) k) t) {s with heap:=h',toks:=n}):wpAny M A (call (.builtin "max") [.int i t,.int j u,.int k v]) Q E s :=
 grown<|lw<|max_three_ints hh λh' tk hk sz=>by
  have h:=λt=>q t h' tk ⟨hk,sz⟩;rw[mK,mK i j] at h;by_cases c:j > i
  .rw[if_pos c] at h ⊢;by_cases d:k > j
   .rw[if_pos d] at h ⊢;exact h v
   .rw[if_neg d] at h ⊢;exact h u
  .rw[if_neg c] at h ⊢;by_cases d:k > i
   .rw[if_pos d] at h ⊢;exact h v
   .rw[if_neg d] at h ⊢;exact h t
end
end
section
theorem pO{r r':List Int}(p:r.Perm r')(h:r.Pairwise (·<=·))(h':r'.Pairwise (·<=·)):r=r':=List.Perm.eq_of_pairwise (λa b _ _ x y=>Int.le_antisymm x y) h h' p
section
variable {A:Around} {E:Value->Shared->Prop} {s:Shared} {Q:Value->Shared->Prop}
theorem grownP{α:Type}{t:Sem α}{Q:α->Shared->Prop}(h:PySem.wpAny M A t (λv s'=>s.heap.objs.size<=s'.heap.objs.size->Q v s') E s):PySem.wpAny M A t Q E s:=λΓ p a =>
 Sem.wp_mono M Γ t (λ_ _ _ z=>z.1 z.2) (λ_ _ _ z=>z.1) p s (nY M Γ _ t (qW _) (h Γ p a))
theorem l_sortD{a:Addr}{kvs:List (Int×Value)}(hh:A.handled=none)(D:s.heap.DictOf (intKind prog w0) a kvs)(lo:(a==sysModules)=false)(h64:kvs.length<64){rs:List Int}(hp:rs.Perm (kvs.map (·.1)))(hs:rs.Pairwise (·<=·))
  (q:∀D h' k vs n,Idle s.heap h'->s.heap.objs.size<=D->h'.get? D=some (aM vs n)->IntsAre vs rs->Q (.ref D) {s with heap:=h',toks:=k}):wpAny M A (call (.builtin "sorted") [.ref a]) Q E s:=by
 exists hh D lo h64 hp hs q,zA A,aN E,zS s,aN Q,zN a,zL kvs,zL rs;obtain⟨ep,hat⟩:=D.dictAt;refine grown<|lw<|Calls.call_function_entry kind_sorted plain_sorted entry_sorted (args_sorted1 _) ?_;unfold Builtin.«sorted»;refine qA (m:=checkCount "sorted" 1 1 _) (qB ?_);refine qA (grownP (kdu_collect (A:=A.in1) (kdl_dict (knd:=intKind prog w0) (kvs:=kvs) (ep:=ep) lo) hh hat (kdl_size (by lia)) λh' tk acc hk hacc hsz=>?_));have hl:acc.toList.length=kvs.length:=by rw[Array.length_toList];exact hacc.1
 have hI:IntsAre acc.toList (kvs.map (·.1)):=by
  have gen:∀(vs:List Value) (es:List (Int×Value)),vs.length=es.length->(∀(j:Nat) (v:Value),vs[j]?=some v->∃k x,es[j]?=some (k,x)/\(intKind prog w0).is k v=true)->IntsAre vs (es.map (·.1)):=by
   intro vs
   induction vs with
   | nil=>intro es e _;cases es with|nil=>exact .nil|cons _ _=>cases e
   | cons v vs ih =>
    intro es e H;cases es with
    | nil=>cases e
    | cons p es =>
     obtain⟨k,x,e1,e2⟩:=H 0 v rfl;cases e1;obtain⟨t,rfl⟩:=Value.isInt_shape e2;exact .cons _ _ (ih es (by simpa using e) λj u hj=>H (j+1) u hj)
  exact gen _ _ hl λj v e=>hacc.2 j v (by rw[<-Array.getElem?_toList];exact e)
 refine qA (PySem.wpAny_newObj_type ?_ (by show acc.toList.toArray.size<=sizeLine;rw[List.size_toArray,hl];exact kdl_size (by lia)));have hoL:(h'.push (seqObj "list" acc.toList.toArray 0)).get? h'.objs.size=some (seqObj "list" acc.toList.toArray 0):=qK _ rfl;refine qA (PySem.wpAny_holding (r8 slot_list_sort ⟨_,hoL,rfl⟩ entry_list_sort (list_sort_tree hoL hI (by rw[hl];exact h64) λout ns' a1 a2 a3=>⟨_,rfl,?_⟩) (args_list_sort _)));refine qB ⟨_,rfl,λsz=>?_⟩;obtain⟨e,he⟩:=sortedHeap_at (out:=out) hoL;have old:∀b o,s.heap.get? b=some o->(sortedHeap (h'.push (seqObj "list" acc.toList.toArray 0)) h'.objs.size acc.toList out).get? b=some o:=λb o eb=>by
  have hb:=hk b o eb;have lt:=qZ hb;rw[sortedHeap_old (q_ lt) (by rw[size_push'];exact Nat.lt_succ_of_lt lt)];exact qE _ hb
 refine q _ _ tk out.toList e ⟨old,sz⟩ hsz (by rw[he]) ?_;exact pO (a2.trans hp.symm) a3 hs▸a1
end
end
section
namespace BI
theorem slot_iter:Slot "bytearray" "__iter__" "bytearray.__iter__" :=
 .of (owner:="bytearray") (n:="__iter__") (by rw[qX,qT];rfl') (by decide +kernel) (by decide +kernel) (by decide +kernel)
  (by first|exact .inl (by decide +kernel)|exact .inr (by decide +kernel)) (by rw[isSubtype_type];rfl')
theorem entry_iter:entryFor table "bytearray.__iter__"=some Builtin.«bytearray.__iter__»:=entryFor_of_tree (by rfl')
theorem args_iter(a:Value):argsOk "bytearray.__iter__" ⟨[a],[]⟩:=by
 unfold argsOk;rw[signature?_of (id:="bytearray.__iter__") (n:=['_','_','r','e','t','i','_','_']) (o:=['y','a','r','r','a','e','t','y','b']) (by rfl') LB.owner_ba];rfl'
theorem slot_next:Slot "bytearray_iterator" "__next__" "bytearray_iterator.__next__" :=
 .of (owner:="bytearray_iterator") (n:="__next__") (by rw[qX,qT];rfl') (by decide +kernel) (by decide +kernel) (by decide +kernel)
  (by first|exact .inl (by decide +kernel)|exact .inr (by decide +kernel)) (by rw[isSubtype_type];rfl')
theorem slot_self:Slot "bytearray_iterator" "__iter__" "bytearray_iterator.__iter__" :=
 .of (owner:="bytearray_iterator") (n:="__iter__") (by rw[qX,qT];rfl') (by decide +kernel) (by decide +kernel) (by decide +kernel)
  (by first|exact .inl (by decide +kernel)|exact .inr (by decide +kernel)) (by rw[isSubtype_type];rfl')
theorem entry_next:entryFor table "bytearray_iterator.__next__"=some Builtin.«bytearray_iterator.__next__»:=entryFor_of_tree (by rfl')
theorem entry_self:entryFor table "bytearray_iterator.__iter__"=some Builtin.«dict_keyiterator.__iter__»:=entryFor_alias (id':="dict_keyiterator.__iter__") (by rfl') rfl (by decide +kernel) (by rfl')
theorem args_next(a:Value):argsOk "bytearray_iterator.__next__" ⟨[a],[]⟩:=by unfold argsOk;rfl'
theorem args_self(a:Value):argsOk "bytearray_iterator.__iter__" ⟨[a],[]⟩:=by unfold argsOk;rfl'
def It(h:Heap)(a b:Addr)(i:Nat):Prop:=∃o,h.get? a=some o/\o.cls=.type "bytearray_iterator"/\o.data=.fields #[.ref b,.int i 0]
theorem It.typeIs{s:Shared}{a b:Addr}{i:Nat}(y:It s.heap a b i):s.TypeIs (.ref a) "bytearray_iterator":=let⟨o,ho,hc,_⟩:=y;⟨o,ho,hc⟩
end BI
section
variable {A:Around} {E:Value->Shared->Prop} {s:Shared} {a:Addr} {bs:List UInt8}
theorem ba_iter{Q:Value->Shared->Prop}(e:s.heap.get? a=some (ak bs))(hQ:Q (.ref s.heap.objs.size) {s with heap:=s.heap.push {cls:=.type "bytearray_iterator",data:=.fields #[.ref a,.int 0 0]}}):PySem.wpAny M A (pyIter (.ref a)) Q E s:=by
 refine wpAny_pyIter_slot ⟨_,e,rfl⟩ BI.slot_iter (r8 BI.slot_iter ⟨_,e,rfl⟩ BI.entry_iter ?_ (BI.args_iter _));refine(?_:PySem.wpAny _ _ (do ret (<-newFields "bytearray_iterator" [.ref a,rawInt 0])) _ _ s);exact qA (wpAny_newObj_type (qB ⟨_,rfl,"bytearray_iterator",_,⟨_,qK _ rfl,rfl⟩,BI.slot_next.lookup,hQ⟩))
theorem ba_self{it:Addr}{i:Nat}{Q:Value->Shared->Prop}(hit:BI.It s.heap it a i)(h:Q (.ref it) s):PySem.wpAny M A (pyIter (.ref it)) Q E s:=by
 refine wpAny_pyIter_slot hit.typeIs BI.slot_self (r8 BI.slot_self hit.typeIs BI.entry_self ?_ (BI.args_self _));refine(?_:PySem.wpAny _ _ (ret (.ref it)) _ _ s);exact qB ⟨_,rfl,"bytearray_iterator",_,hit.typeIs,BI.slot_next.lookup,h⟩
theorem ba_next{it:Addr}{i:Nat}{c:UInt8}{Q:Option Value->Shared->Prop}(hit:BI.It s.heap it a i)(e:s.heap.get? a=some (ak bs))(hx:bs[i]?=some c)
  (hQ:∀h',BI.It h' it a (i+1)->Heap.SameBut it s.heap h'->Q (some (.int (c.toNat:Int) s.toks)) {s with heap:=h',toks:=s.toks+1}):PySem.wpAny M A (pyNext (.ref it)) Q E s:=by
 exists hit e hx hQ,zA A,aN E,zS s,zN a,zL bs,zN it,zN i,zu c,aN Q;obtain⟨o,ho,hc,hd⟩:=id hit;unfold pyNext;refine qA (PySem.wpAny_attempt (PySem.wpAny_callSpecial?_slot (name:=PySem.Str.ofString "__next__") hit.typeIs BI.slot_next
  (r8 BI.slot_next hit.typeIs BI.entry_next ?_ (BI.args_next _))))
 refine(?_:PySem.wpAny _ _ (field (.ref it) 0>>=_) _ _ s);refine qA (wpAny_field ho hd (x:=.ref a) rfl ?_);refine qA (m:=load a) (PySem.wpAny_load e ?_);refine(?_:PySem.wpAny _ _ (field (.ref it) 1>>=_) _ _ s);refine qA (wpAny_field ho hd (x:=.int i 0) rfl ?_);simp only[Int.toNat_natCast,List.getElem?_toArray,hx];refine qA (wpAny_setField ho hd (by simp) (qA (wpAny_mkInt (qB ⟨_,rfl,qB (hQ _ ?_ (qY ..))⟩))));exact⟨_,r5 _ ho (Obj.isFreed_of_fields (Obj.data_mapFields hd _)),(Obj.cls_mapFields ..).trans hc,by
  rw[Obj.data_mapFields hd];simp[rawInt]⟩
theorem ba_end{it:Addr}{i:Nat}{Q:Option Value->Shared->Prop}(hh:A.handled=none)(hit:BI.It s.heap it a i)(e:s.heap.get? a=some (ak bs))(hx:bs[i]?=none)
  (hQ:∀h',Heap.ExtBut it s.heap h'->Q none {s with heap:=h'}):PySem.wpAny M A (pyNext (.ref it)) Q E s:=by
 exists hh hit e hx hQ,zA A,aN E,zS s,zN a,zL bs,zN it,zN i,aN Q;obtain⟨o,ho,hc,hd⟩:=id hit;unfold pyNext;refine qA (PySem.wpAny_attempt (PySem.wpAny_callSpecial?_slot (name:=PySem.Str.ofString "__next__") hit.typeIs BI.slot_next
  (r8 BI.slot_next hit.typeIs BI.entry_next ?_ (BI.args_next _))))
 refine(?_:PySem.wpAny _ _ (field (.ref it) 0>>=_) _ _ s);refine qA (wpAny_field ho hd (x:=.ref a) rfl ?_);refine qA (m:=load a) (PySem.wpAny_load e ?_);refine(?_:PySem.wpAny _ _ (field (.ref it) 1>>=_) _ _ s);refine qA (wpAny_field ho hd (x:=.int i 0) rfl ?_);simp only[Int.toNat_natCast,List.getElem?_toArray,hx];refine qA (PySem.wpAny_rule (qA (wpAny_setField ho hd (by simp) (qA (PySem.wpAny_letGo ?_)))));refine f9 (A:=A.in1) (λv z=>by rw[show A.in1.handled=none from hh] at z;cases z) (Grown.of_same (qY ..)) λh' x e he=>?_;exact qA (wpAny_isInstance (T:="StopIteration") (b:=true) he isSubtype_stop (qB (hQ _ x.1)))
theorem ba_walks(hh:A.handled=none)(I:Addr)(hne:a≠I):Walks prog w0 A I [I,a] [I] bs.length (λi v=>∃c u,bs[i]?=some c/\v=.int (c.toNat:Int) u) (λi h=>BI.It h I a i/\h.get? a=some (ak bs)) where
 sub:=λb hb=>by simp at hb;simp[hb]
 frame:=λ_ _ _ st hk=>⟨let⟨o,ho,r⟩:=st.1;⟨o,hk I (by simp) o ho,r⟩,hk a (by simp) _ st.2⟩
 item:=λi s Q E hi st hQ=>by
  refine ba_next st.1 st.2 (c:=bs[i]) (by simp[hi]) λh' hit' hs'=>?_;exact hQ _ h' (s.toks+1) ⟨_,_,by simp[hi],rfl⟩ ⟨hit',hs'.extBut a _ hne st.2⟩ λb o hb e=>hs'.extBut b o (λh=>hb (by simp[h])) e
 done:=λs Q E st hQ=>ba_end hh st.1 st.2 (by simp) λh' he'=>hQ h' s.toks λb o hb e=>he' b o (λh=>hb (by simp[h])) e
 self:=λ_ _ _ _ st hQ=>ba_self st.1 hQ
theorem ba_hint{Q:Bool->Shared->Prop}(hT:s.TypeIs (.ref a) "bytearray")(h:Q false s):PySem.wpAny M A (Builtin.List.listLengthHint (.ref a)) Q E s:=by
 exists hT h,zA A,aN E,zS s,zN a,aN Q;unfold Builtin.List.listLengthHint;refine qA (qR hT LB.slot_len.lookup ?_);generalize hid:("bytearray.__len__":String)=id0
 wp_delta
 refine(show splitId id0=some ("bytearray","__len__") from by subst hid;decide +kernel).symm▸?_;subst hid;refine qA (wpAny_isInstance (T:="bytearray") (b:=true) hT (by rw[isSubtype_type];rfl') ?_);refine wpAny_ite_split (λhab=>absurd hab (by decide)) (λ_=>?_);refine wpAny_ite_split (λ_=>?_) (λhab=>absurd (by decide +kernel) hab);refine qA (wpAny_typeOf hT ?_);exact qB h
theorem ba_src:KdlSrc prog w0 "bytearray" a a bs.length (λi v=>∃c u,bs[i]?=some c/\v=.int (c.toNat:Int) u) (λh=>h.get? a=some (ak bs)) where
 type:=λ_ e=>⟨_,e,rfl⟩
 there:=λ_ e=>⟨qZ e,qZ e⟩
 keep:=λ_ _ e hk=>hk a (.inl rfl) _ e
 notList:=by decide
 notTuple:=by decide
 hint:=λ_ _ _ _ e hq=>ba_hint ⟨_,e,rfl⟩ hq
 iter:=λ_ s hh e=>⟨_,_,(λ_ _ hq=>ba_iter e hq),ba_walks hh _ (q_ (qZ e)),⟨⟨_,qK _ rfl,rfl,rfl⟩,qE _ e⟩⟩
theorem l_listB{Q:Value->Shared->Prop}(hh:A.handled=none)(e:s.heap.get? a=some (ak bs))(hl:bs.length<=1000000)
  (q:∀D h' k vs m,Idle s.heap h'->s.heap.objs.size<=D->h'.get? D=some (aM vs m)->vs.length=bs.length->(∀(j:Nat) (v:Value),vs[j]?=some v->∃c u,bs[j]?=some c/\v=Value.int (c.toNat:Int) u)->Q (.ref D) {s with heap:=h',toks:=k}):wpAny M A (call (.type "list") [.ref a]) Q E s :=
 grown<|lw<|kdl_call ba_src hh e (kdl_size (by lia)) λh' tk acc' c' hk hD hacc sz=>q _ h' tk acc'.toList c' ⟨hk,sz⟩ (qW _) (by rw[hD]) (by rw[Array.length_toList];exact hacc.1) λj v ev=>hacc.2 j v (by rw[<-Array.getElem?_toList];exact ev)
end
end
section
namespace BR
theorem nby:typeLookup (.type "range") "__bytes__"=pure none:=by rw[qX,qT];rfl'
theorem nix:typeLookup (.type "range") "__index__"=pure none:=by rw[qX,qT];rfl'
theorem nbu:typeLookup (.type "range") "__buffer__"=pure none:=by rw[qX,qT];rfl'
theorem split:splitId "range.__len__"=some ("range","__len__"):=by decide +kernel
theorem sub:isSubtype (.type "range") (.type "range")=pure true:=by rw[isSubtype_type];rfl'
end BR
noncomputable def mA:Nat->Int->Option (List UInt8)
 | 0,_=>some []
 | n+1,a=>match cg a,mA n (a+1) with|some b,some l=>some (b::l)|_,_=>none
theorem oi:∀{n:Nat} {a:Int} {bs:List UInt8},mA n a=some bs->bs.length=n/\∀i:Nat,i<n->0<=a+i/\a+i<256/\bs[i]?=some (a+i).toNat.toUInt8
 | 0,a,bs,e=>by cases e;exact⟨rfl,λi h=>absurd h (Nat.not_lt_zero _)⟩
 | n+1,a,bs,e=>by
  have e:(match(generalizing:=false) cg a,mA n (a+1) with|some b,some l=>some (b::l)|_,_=>.none)=some bs:=e;cases z:cg a with
  | none=>rw[z] at e;cases e
  | some b =>
   cases z':mA n (a+1) with
   | none=>rw[z,z'] at e;cases e
   | some l =>
    rw[z,z'] at e;cases e;obtain⟨h1,h2⟩:=oi z';have hb:0<=a/\a<256/\b=a.toNat.toUInt8:=by
     unfold cg at z;cases y:decide (0<=a) with
     | false=>rw[y] at z;cases z
     | true=>cases y':decide (a<256) with
      | false=>rw[y,y'] at z;cases z
      | true=>rw[y,y'] at z;cases z;exact⟨qD y,qD y',rfl⟩
    refine⟨by rw[List.length_cons,h1],λi hi=>?_⟩;cases i with
    | zero=>obtain⟨b0,b1,rfl⟩:=hb;refine⟨by lia,by lia,?_⟩;simp
    | succ i =>
     obtain⟨x1,x2,x3⟩:=h2 i (by lia);have e:a+((i+1:Nat):Int)=a+1+i:=by lia
     rw[e];exact⟨x1,x2,by simpa using x3⟩
section
variable {A:Around} {E:Value->Shared->Prop} {s:Shared}
theorem br_loop{R:Result->Shared->Prop}{I S:Addr}{a:Int}{n:Nat}{bs:List UInt8}(hh:A.handled=none)(hl:bs.length=n)(hb:∀i:Nat,i<n->0<=a+i/\a+i<256/\bs[i]?=some (a+i).toNat.toUInt8)(hz:n<=1000000)(hIS:I≠S):
  ∀(k i:Nat) (s:Shared),n - i=k->i<=n->IsRangeIter s.heap I (a+(i:Nat)*1) ((n:Int) - (i:Nat)) 1->s.heap.get? S=some (ak (bs.take i)) ->
   (∀h' t k',(∀b o,b≠I->b≠S->s.heap.get? b=some o->h'.get? b=some o)->R (.ok (.ret (.bytes ⟨bs⟩ t))) {s with heap:=h',toks:=k'}) ->
   PySem.codeAny M A (.builtin "bytes.__new__.loop" ⟨[.type "bytes",.ref I,.ref S],[]⟩) R s:=by
 have W:=Walks.range (prog:=prog) (w:=w0) (A:=A.in1) hh I a 1 n;intro k
 induction k with
 | zero =>
  intro i s hk hle hit hS hR;have hin:i=n:=by lia
  subst hin;refine PySem.codeAny_builtin PySem.F.bm_entry_loop ?_;rw[Around.under_plainId PySem.F.bm_plain_loop _];refine(?_:PySem.wpAny _ A.in1 (pyNext (.ref I)>>=_) _ _ s);refine qA (W.done s _ _ hit λh' tk he=>?_);have hS':h'.get? S=some (ak (bs.take i)):=he S _ (by simp[Ne.symm hIS]) hS;refine qA ?_;refine qA (qA (PySem.wpAny_load hS' ?_));refine qB (qB ?_);rw[List.take_of_length_le (by lia)];refine qA (wpAny_mkBytes ?_ (by show bs.length<=sizeLine;rw[hl];exact kdl_size (by lia)));refine(?_:PySem.wpAny _ _ (if(Value.type "bytes"==Value.type "bytes")=true then _ else _) _ _ _);refine bm_if_true (by decide) ?_
  first
   | exact qB (hR h' _ _ λb o hb _ e=>he b o (by simp[hb]) e)
   | exact qA (qB (qB (hR h' _ _ λb o hb _ e=>he b o (by simp[hb]) e)))
 | succ k ih =>
  intro i s hk hle hit hS hR;have hlt:i<n:=by lia
  obtain⟨h0,h1,h2⟩:=hb i hlt;refine PySem.codeAny_builtin PySem.F.bm_entry_loop ?_;rw[Around.under_plainId PySem.F.bm_plain_loop _];refine(?_:PySem.wpAny _ A.in1 (pyNext (.ref I)>>=_) _ _ s);refine qA (W.item i s _ _ hlt hit λv h' tk hv hit' hs=>?_);obtain⟨t,rfl⟩:=hv;have hS':h'.get? S=some (ak (bs.take i)):=hs S _ (by simp[Ne.symm hIS]) hS;refine qA (PySem.wpAny_holding (qV (rfl:asIndex (.int (a+i*1) t)=pure (a+i*1)) ?_));refine qA (PySem.wpAny_letGo ?_);refine bm_if_false (by simp only[Bool.or_eq_false_iff,decide_eq_false_iff_not];lia) ?_;rw[show a+(i:Int)*1=a+i by lia];refine qA ?_;refine(?_:PySem.wpAny _ _ (updateBytearray S (·.push (a+i).toNat.toUInt8)) _ _ _);refine qA (PySem.wpAny_load hS' ?_);refine(?_:PySem.wpAny _ _ (update S (Obj.mapBytearray (·.push (a+i).toNat.toUInt8))>>=λ_=>lookBehind S) _ _ _);refine qA (PySem.wpAny_update hS' ?_);have tC:(h'.update S (Obj.mapBytearray (·.push (a+i).toNat.toUInt8))).get? S=some (ak (bs.take (i+1))):=by
   rw[List.take_add_one,h2];refine(r5 (Obj.mapBytearray (·.push (a+i).toNat.toUInt8)) hS' rfl).trans ?_;simp[Obj.mapBytearray,ak]
  refine PySem.wpAny_lookBehind tC ?_ ?_
  .refine(?_:(if(Array.mk (bs.take (i+1))).size > sizeLine then some "bytearray:memory" else none)=none);rw[if_neg];have:=kdl_size (n:=n) (by lia);refine(?_:¬(bs.take (i+1)).length > sizeLine);rw[List.length_take];lia
  .refine qB ⟨plainId_quiet PySem.F.bm_plain_loop _,ih (i+1) _ (by lia) hlt ?_ tC λh3 t' k' hk3=>?_⟩
   .exact(Heap.get?_update_other _ _ (Ne.symm hIS)).trans hit'
   .exact hR h3 t' k' λb o hbI hbS e=>hk3 b o hbI hbS ((Heap.get?_update_other _ _ (Ne.symm hbS)).trans (hs b o (by simp[hbI]) e))
theorem br_new{r:Addr}{a b:Int}{t u v:Tok}{rK:UInt8}{bs:List UInt8}{Q:Value->Shared->Prop}(hh:A.handled=none)(e:IsRange s.heap r a b 1 t u v)(hb:mA (b - a).toNat a=some (rK::bs))(hz:(rK::bs).length<=1000000)
  (hQ:∀t h' k,(∀b o,s.heap.get? b=some o->h'.get? b=some o)->Q (.bytes ⟨rK::bs⟩ t) {s with heap:=h',toks:=k}) :
  PySem.codeAny M A (.call (.builtin "bytes.__new__") ⟨[.type "bytes",.ref r],[]⟩) (wants Q E) s:=by
 exists hh e hb hz hQ,zA A,aN E,zS s,zN r,zI a,zI b,zN t,zN u,zN v,zu rK,zL bs,aN Q;obtain⟨hl,hb⟩:=oi hb;generalize hn:(b - a).toNat=n at hl hb;have hn0:0<n:=by rw[<-hl];simp
 have x0:=hb 0 hn0;have x1:=hb (n - 1) (by omega);have hsm:Builtin.Range.small a b 1=true:=small_one (by omega) (by omega) (by omega) (by omega);have hsz:Builtin.Range.rangeSize a b 1=n:=by rw[rangeSize_nat,hn]
 refine PySem.codeAny_of_tree ?_;refine(?_:PySem.wpAny _ A.in1 (do checkBuiltinCall "bytes.__new__" ⟨[.type "bytes",.ref r],[]⟩;again (.builtin "bytes.__new__" ⟨[.type "bytes",.ref r],[]⟩)) _ _ s);refine qA (qV (PySem.F.bm_newCall _) (qB ⟨plainId_quiet PySem.F.bm_plain _,PySem.codeAny_builtin PySem.F.bm_entry ?_⟩));refine(Around.under_plainId PySem.F.bm_plain _).symm▸?_;have hT:s.TypeIs (.ref r) "range":=⟨_,e,rfl⟩;refine qA (qV (a:=true) rfl ?_);refine bm_if_false rfl ?_;refine qA (qV PySem.F.bm_sub ?_);refine bm_if_false rfl ?_;refine qA (qV (PySem.F.bm_bind _) ?_);refine qA (qV (a:=()) rfl ?_);refine qA (qV (a:=()) rfl ?_);refine bm_if_false rfl ?_;refine qA (qR hT BR.nby ?_);refine qA (qA ?_);refine(?_:PySem.wpAny _ _ (load r>>=_) _ _ _);refine qA (PySem.wpAny_load e ?_);refine qB (qB ?_);refine bm_if_false rfl ?_;refine qA (qR hT BR.nix ?_);refine bm_if_true rfl ?_
 first
  | show PySem.wpAny _ _ (Builtin.Bytes.buffer? "bytes.__new__" (.ref r) true>>=_) _ _ _
  | (refine qA ?_;show PySem.wpAny _ _ (Builtin.Bytes.buffer? "bytes.__new__" (.ref r) true>>=_) _ _ _)
 refine qA ?_;refine qA (qR hT BR.nbu ?_);refine qA (qR hT BR.nbu ?_);refine qB ?_;refine qA (PySem.wpAny_tryCatch (wpAny_pyIter_range e hsm ?_));have rP:=qE {cls:=.type "range_iterator",data:=.fields #[rawInt a,rawInt (Builtin.Range.rangeSize a b 1),rawInt 1]} e;have sQ:({s with heap:=s.heap.push {cls:=.type "range_iterator",data:=.fields #[rawInt a,rawInt (Builtin.Range.rangeSize a b 1),rawInt 1]}}:Shared).TypeIs (.ref r) "range":=⟨_,rP,rfl⟩;refine qA (PySem.wpAny_holding ?_);refine qA (qR sQ PySem.F.slot_range_len.lookup ?_);dsimp only;refine(BR.split).symm▸?_;refine qA (wpAny_isInstance sQ BR.sub ?_);refine bm_if_false rfl ?_;refine bm_if_false (by decide +kernel) ?_;refine bm_if_true rfl ?_;refine qA (PySem.wpAny_rule ?_);refine qA (PySem.wpAny_attempt (call_len_range rP hsz (by omega) ?_));refine qA (m:=asInt? _) (qB ?_);refine bm_if_false (by unfold Builtin.Bytes.tooLong;rw[decide_eq_false_iff_not,Int.toNat_natCast,sizeLine_eq];omega) ?_;refine qB ?_;refine qA ?_;refine wpAny_newObj_type ?_ (r0 _);have hz1:(s.heap.push {cls:=.type "range_iterator",data:=.fields #[rawInt a,rawInt (Builtin.Range.rangeSize a b 1),rawInt 1]}).objs.size=s.heap.objs.size+1:=Heap.size_push _ _;have hI:IsRangeIter ((s.heap.push {cls:=.type "range_iterator",data:=.fields #[rawInt a,rawInt (Builtin.Range.rangeSize a b 1),rawInt 1]}).push {cls:=.type "bytearray",data:=.bytearray #[]}) s.heap.objs.size (a+((0:Nat):Int)*1) ((n:Int) - ((0:Nat):Int)) 1:=by
  rw[hsz];simpa using qE _ (qK _ rfl)
 have main:=br_loop (A:=A) (R:=wants Q E) (I:=s.heap.objs.size) (S:=(s.heap.push {cls:=.type "range_iterator",data:=.fields #[rawInt a,rawInt (Builtin.Range.rangeSize a b 1),rawInt 1]}).objs.size) hh hl hb (by rw[<-hl];exact hz) (by rw[hz1];exact q_ (Nat.lt_succ_self _))
  n 0 {s with heap:=(s.heap.push {cls:=.type "range_iterator",data:=.fields #[rawInt a,rawInt (Builtin.Range.rangeSize a b 1),rawInt 1]}).push {cls:=.type "bytearray",data:=.bytearray #[]},toks:=s.toks+1+1} rfl (r0 _) hI (qK _ rfl)
  λh' t k hk=>hQ t h' k λc o e=>hk c o (q_ (qZ e)) (by rw[hz1];exact q_ (Nat.lt_succ_of_lt (qZ e))) (qE _ (qE _ e))
 first
  | exact qB ⟨plainId_quiet PySem.F.bm_plain_loop _,main⟩
  | exact qB (qB ⟨plainId_quiet PySem.F.bm_plain_loop _,main⟩)
theorem l_bytesR{r:Addr}{a b:Int}{t u v:Tok}{rK:UInt8}{bs:List UInt8}{Q:Value->Shared->Prop}(hh:A.handled=none)(e:IsRange s.heap r a b 1 t u v)(hb:mA (b - a).toNat a=some (rK::bs))(hz:(rK::bs).length<=1000000)
  (q:∀t h' k,Idle s.heap h'->Q (.bytes ⟨rK::bs⟩ t) {s with heap:=h',toks:=k}):wpAny M A (call (.type "bytes") [.ref r]) Q E s:=by
 refine grown<|lw<|PySem.callType_codes (Q₁:=λobj rj=>rj.TypeIs obj "bytes"/\(s.heap.objs.size<=rj.heap.objs.size->Q obj rj)) PySem.F.bm_called (PySem.F.bm_typeCall _) PySem.F.entry_object_init
  (br_new hh e hb hz λt h' k hk=>⟨PySem.W.typeIs_bytes _ _ _,λsz=>q t h' k ⟨hk,sz⟩⟩) λobj rj rC=>?_
 exact⟨rC.1,PySem.F.args_object_init_2 obj _,object_init_meets PySem.F.bm_called.init.lookup PySem.F.bm_called.made (by decide) prog w0 A.in1 _ rj ⟨rC.1,rfl,rC.2⟩⟩
end
end
section
namespace JB
theorem entry:entryFor table "bytes.join"=some Builtin.«bytes.join»:=by first|exact entryFor_of_fast (by rfl')|exact entryFor_of_tree (by rfl')
theorem args(a b:Value):argsOk "bytes.join" ⟨[a,b],[]⟩:=by unfold argsOk;rfl'
end JB
inductive BysRel:List Value->List (Array UInt8)->Prop
 | nil:BysRel [] []
 | cons {b:Array UInt8} {t:Tok} {vs:List Value} {ps:List (Array UInt8)} (r:BysRel vs ps):BysRel (.bytes b t::vs) (b::ps)
theorem bys_len{vs:List Value}{ps:List (Array UInt8)}(r:BysRel vs ps):vs.length=ps.length:=by induction r<;>simp_all
theorem bys_at{vs:List Value}{ps:List (Array UInt8)}(r:BysRel vs ps):∀{i:Nat},i<vs.length->∃b t,vs[i]?=some (.bytes b t)/\ps[i]?=some b:=by
 induction r with
 | nil=>intro i h;exact absurd h (Nat.not_lt_zero _)
 | cons r ih=>intro i h;cases i with
  | zero=>exact⟨_,_,rfl,rfl⟩
  | succ i=>exact ih (by simpa using h)
section
variable {A:Around} {E:Value->Shared->Prop} {s:Shared}
theorem tk_bytes{id:String}{b:Array UInt8}{t:Tok}{Q:Option (Array UInt8×Option Value)->Shared->Prop}(q:Q (some (b,none)) s):PySem.wpAny M A (Builtin.Bytes.takeBufferQuiet? id (.bytes b t) 0) Q E s:=by
 revert q;revert A E s id b t Q;refine @al7 _ _ _ _ _ _ _ zA aN zS zg za zN aN ?P ((?f:∀a b c d e f g,?P a b c d e f g) _ _ _ _ _ _ _);intro A E s id b t Q q;have hT:=typeIs_bytes s b t;refine qA (PySem.wpAny_attempt ?_);refine qA (qR hT gl (qA ?_));refine qA (qR hT gl ?_);refine(?_:PySem.wpAny M A (if(!"bytes.__buffer__".endsWith ("."++"__buffer__"))=true then _ else _) _ _ _);rw[show "bytes.__buffer__".endsWith ("."++"__buffer__")=true by decide +kernel,if_neg (by decide),show "bytes.__buffer__".dropRight ("__buffer__".length+1)="bytes" by decide +kernel];refine wpAny_isInstance hT by_sub ?_;refine bm_if_false rfl ?_;refine qA (qR hT gl ?_);refine qA (jt ?_);exact qB (qB q)
theorem oU{r:Value}:∀(l:List (Value×Option Value)),(∀x∈l,x.2=none)->∀{Q:Unit->Shared->Prop},Q () s->PySem.wpAny M A (Builtin.Bytes.joinLetGo l [r]) Q E s
 | [],_,Q,q=>by unfold Builtin.Bytes.joinLetGo;exact qB q
 | (x,w)::l,h,Q,q=>by
  have:w=none:=h _ (.head _);subst this;exact qA (wpAny_letGo (oU l (λy m=>h y (.tail _ m)) q))
theorem mQ(ps:List (Array UInt8)):Builtin.Bytes.joined ⟨[]⟩ ps=⟨ps.flatMap (·.toList)⟩:=by
 have gen:∀(ps:List (Array UInt8)) (k:Nat) (acc:Array UInt8),(ps.zipIdx k).foldl (λout (x:Array UInt8×Nat)=>(if x.2 > 0 then out++(⟨[]⟩:Array UInt8) else out)++x.1) acc=acc++(⟨ps.flatMap (·.toList)⟩:Array UInt8):=by
  intro ps
  induction ps with
  | nil=>intro k acc;simp
  | cons p ps ih =>
   intro k acc;rw[List.zipIdx_cons,List.foldl_cons,ih];have:(if k > 0 then acc++(⟨[]⟩:Array UInt8) else acc)=acc:=by split<;>simp
   refine(this).symm▸?_;apply Array.ext';simp
 have:=gen ps 0 #[];simpa [Builtin.Bytes.joined] using this
theorem pN(ps:List (Array UInt8)):∀k:Nat,ps.foldl (λx y=>x+y.size) k=k+(ps.flatMap (·.toList)).length:=by
 induction ps with
 | nil=>intro k;simp
 | cons p ps ih=>intro k;rw[List.foldl_cons,ih];simp;lia
theorem q9{a:Addr}{vs:List Value}{ps:List (Array UInt8)}{n:Nat}{t:Tok}{Q:Fin->Shared->Prop}(e:s.heap.get? a=some (aM vs n))(r:BysRel vs ps)(h2:2<=vs.length)(hz:(ps.flatMap (·.toList)).length<=1000000)
  (q:∀t k,Q (.done (.ret (.bytes ⟨ps.flatMap (·.toList)⟩ t))) {s with toks:=k}):PySem.wpAny M A (Builtin.«bytes.join» ⟨[.bytes ⟨[]⟩ t,.ref a],[]⟩) Q E s:=by
 exists e r h2 hz q,zA A,aN E,zS s,zN a,zL vs,zL ps,zN n,zN t,aN Q;obtain⟨arr,harr⟩:∃arr,arr=vs.toArray:=⟨_,rfl⟩;have hz2:2<=arr.size:=by rw[harr];simpa using h2
 have e':s.heap.get? a=some {cls:=.type "list",data:=.seq arr n}:=by rw[harr];exact e
 refine qA (m:=selfAndOne "bytes.join" ⟨[.bytes ⟨[]⟩ t,.ref a],[]⟩) (qB ?_);refine qA (m:=Builtin.Bytes.joinItems (.ref a)) ?_;refine qA (wpAny_typeOf (T:="list") ⟨_,e,rfl⟩ ?_);refine bm_if_true (by decide) (qB ?_);refine qA (wpAny_seqItems e' rfl ?_);refine bm_if_true (by decide) ?_;rw[show ∀(f:Value->Sem Fin) (g:Array Value->Sem Fin),Builtin.Bytes.joinM.match_1 (λ_=>Sem Fin) arr f g=g arr from λf g=>by unfold Builtin.Bytes.joinM.match_1;exact dif_neg (by lia)];refine qA (PySem.wpAny_mono (Q:=λr s'=>r.1.toList=ps/\(∀x∈r.2,x.2=none)/\s'=s) ?_ (λr s' z=>?_) λ_ _ z=>z)
 .rw[Std.Legacy.Range.forIn_eq_forIn_range'];refine wpAny_forIn_list _ (λl (st:Array (Array UInt8)×List (Value×Option Value)) s'=>s'=s/\∃k,k<=arr.size/\l=List.range' k (arr.size - k)/\st.1.toList=ps.take k/\∀x∈st.2,x.2=none/\∃b t,x.1=.bytes b t) _ ?_ ?_ _ _ ?_
  .rintro i rest ⟨parts,taken⟩ s' ⟨rfl,k,hk,hl,hp,ht⟩
   have hlt:k<arr.size:=by
    by_cases z:k<arr.size
    .exact z
    .rw[show arr.size - k=0 by lia] at hl;cases hl
   rw[show arr.size - k=(arr.size - k - 1)+1 by lia,List.range'_succ] at hl;injection hl with hi hr
   subst hi hr;obtain⟨b,t',hv,hb⟩:=bys_at r (i:=i) (by rw[harr] at hlt;simpa using hlt);refine qA (wpAny_seqItems e' rfl ?_);dsimp only;have hx:arr.getD i Value.none=.bytes b t':=by
    rw[harr,Array.getD_eq_getD_getElem?,List.getElem?_toArray,hv];rfl
   rw[hx];refine bm_if_false ?_ ?_
   .rw[Bool.or_eq_false_iff];refine⟨rfl,?_⟩;rw[List.any_eq_false];intro x hm;obtain⟨_,b',t'',e1⟩:=ht x hm;rw[e1];exact Bool.false_ne_true
   refine qA (PySem.wpAny_holding (tk_bytes ?_));refine qA (wpAny_seqItems e' rfl ?_);refine bm_if_false (by simp) (qB ⟨rfl,i+1,hlt,?_,?_,?_⟩)
   .rw[show arr.size - i - 1=arr.size - (i+1) by lia]
   .dsimp only at hp ⊢;rw[List.take_add_one,hb,Array.toList_push,hp];rfl
   .intro x hm;rcases List.mem_append.mp hm with hm|hm
    .exact ht x hm
    .rw[List.mem_singleton] at hm;subst hm;exact⟨rfl,_,_,rfl⟩
  .rintro ⟨parts,taken⟩ s' ⟨rfl,k,hk,hl,hp,ht⟩
   have:k=arr.size:=by
    by_cases z:k<arr.size
    .rw[show arr.size - k=(arr.size - k - 1)+1 by lia,List.range'_succ] at hl;cases hl
    .lia
   refine⟨?_,λx hm=>(ht x hm).1,rfl⟩;rw[hp,this,List.take_of_length_le (by rw[<-bys_len r,harr];simp)]
  .exact⟨rfl,0,r0 _,by simp,by simp,λx hm=>by cases hm⟩
 .obtain⟨parts,taken⟩:=r;obtain⟨z1,z2,rfl⟩:=z;refine qA (m:=Builtin.Bytes.payload (.bytes ⟨[]⟩ t)) (qB ?_);have hj:Builtin.Bytes.joined ⟨[]⟩ parts.toList=⟨ps.flatMap (·.toList)⟩:=by rw[z1];exact mQ ps
  refine bm_if_false ?_ ?_
  .unfold Builtin.Bytes.tooLong;rw[decide_eq_false_iff_not,<-Array.foldl_toList,z1,pN];have:=kdl_size (n:=(ps.flatMap (·.toList)).length) (by lia);simp only[List.size_toArray,List.length_nil,Nat.zero_mul,Nat.zero_add];lia
  rw[hj];refine qA ?_;refine wpAny_mkBytes ?_ (by show(ps.flatMap (·.toList)).length<=sizeLine;exact kdl_size (by lia));refine qA (PySem.wpAny_holding (PySem.wpAny_point ?_));refine qA (oU _ z2 ?_);exact qB (q _ _)
theorem c_joinL{a:Addr}{vs:List Value}{n:Nat}{ps:List (Array UInt8)}{t:Tok}{Q:Value->Shared->Prop}(e:s.heap.get? a=some (aM vs n))(r:BysRel vs ps)(hz:(ps.flatMap (·.toList)).length<=1000000)(h2:2<=vs.length)
  (q:∀t k,Q (.bytes ⟨ps.flatMap (·.toList)⟩ t) {s with toks:=k}):wpAny M A (call (.builtin "bytes.join") [.bytes ⟨[]⟩ t,.ref a]) Q E s :=
 lw<|r8 ja (typeIs_bytes _ _ _) JB.entry (q9 e r h2 hz λt k=>⟨_,rfl,q t k⟩) (JB.args _ _)
end
end
section
section
variable {A:Around} {E:Value->Shared->Prop} {s:Shared}
theorem fb_tree{a:Addr}{bs:List UInt8}{u:Tok}{P:Fin->Shared->Prop}(e:s.heap.get? a=some (ak bs))(hl:bs.length=4)(h:P (.done (.ret (.int (bn bs) s.toks))) {s with toks:=s.toks+1}):
  PySem.wpAny M A (Builtin.«int.from_bytes» ⟨[.type "int",.ref a,.str "little" u],[]⟩) P E s:=by
 exists e hl h,zA A,aN E,zS s,zN a,zL bs,zN u,aN P;have hT:s.TypeIs (.ref a) "bytearray":=⟨_,e,rfl⟩;have hn:bs.reverse.foldl (λ(acc:Nat) (b:UInt8)=>acc*256+b.toNat) 0<2 ^ 64:=by
  have h1:=KFB.fold_lt bs.reverse 0;rw[Nat.zero_add,Nat.one_mul,List.length_reverse,hl] at h1;omega
 have hv:((bs.reverse.foldl (λ(acc:Nat) (b:UInt8)=>acc*256+b.toNat) 0:Nat):Int)=(bn bs:Int):=by
  rw[KFB.fold_cast,List.map_reverse];exact i3 bs hl
 unfold Builtin.«int.from_bytes»;refine qA (qV (a:=true) KFB.type_int ?_);refine KFB.if_not rfl ?_;refine qA (qV (a:=true) F.conv_sub_int ?_);refine KFB.if_not rfl ?_;refine qA (qV (a:=[some (.ref a),some (.str (PySem.Str.ofString "little") u),none]) (by rfl') ?_);refine qA (qV (a:=PySem.Str.ofString "little") (by rfl') ?_);refine qA (qV (a:=false) rfl ?_);refine qA (qV (a:=true) (by rfl') ?_);refine qA ?_;refine(?_:PySem.wpAny _ _ (specialOf (.ref a) "__bytes__">>=_) _ _ _);refine qA (qR hT iM ?_);refine(?_:PySem.wpAny _ _ ((load a>>=_)>>=_) _ _ _);refine qA (qA (PySem.wpAny_load e (qB ?_)));refine KFB.if_so rfl ?_;refine qA (qR hT md ?_);refine qA (qR hT ma ?_);refine qA (wpAny_isInstance hT ml ?_);refine KFB.if_not rfl ?_;refine(?_:PySem.wpAny _ _ ((load a>>=_)>>=_) _ _ _);refine qA (qA (PySem.wpAny_load e (qB ?_)));refine qB ?_;refine(?_:PySem.wpAny _ _ (mkIntGrown (bs.reverse.foldl (λ(acc:Int) (b:UInt8)=>acc*256+(b.toNat:Int)) ((0:Nat):Int))>>=λv=>_) _ _ _);rw[KFB.foldI_eq];refine qA (KFB.grown hn ?_);refine(hv).symm▸?_;refine KFB.if_so (by decide +kernel) ?_;exact qA (qB (qB h))
theorem fb_check{a:Addr}{u:Tok}{o:PySem.Str}:checkBoundCall "int.from_bytes" ⟨[.type "int",.ref a,.str o u],[]⟩=pure ():=by first|rfl'|rfl
theorem qm{x a:Addr}{bs:List UInt8}{u:Tok}{Q:Value->Shared->Prop}(ho:s.heap.get? x=some fT)(e:s.heap.get? a=some (ak bs))(hl:bs.length=4)(q:∀t k h',Idle s.heap h'->Q (.int (bn bs) t) {s with heap:=h',toks:=k}):
  wpAny M A (call (.ref x) [.ref a,.str "little" u]) Q E s:=by
 refine lw<|PySem.wpAny_call (PySem.codeAny_of_tree ?_);refine(?_:PySem.wpAny _ A.in1 (callAny (.ref x) ⟨[.ref a,.str "little" u],[]⟩) _ _ s);refine qA (PySem.wpAny_load ho ?_);refine KFB.if_so (by decide) ?_;refine qA (qV (a:=()) fb_check ?_);refine qA (qB (qB ?_));exact⟨KFB.quiet_fb,PySem.codeAny_builtin KFB.entry_fb (fb_tree e hl (q _ _ s.heap (Idle.refl _)))⟩
end
end
section
section
variable {fr:Fr} {L L':Hp} {d:Nat} {hd:Bool} {E:Hd->Fr->Hp->Prop} {n:Hd} {i j k:Int} {Q:V->Fr->Hp->Prop} {is:List Int}
theorem k_{y:Y}:∀{is:List Int} {vs:List Value},VsRel y (is.map V.int) vs->∃xs:List (Int×Tok),vs=xs.map (λp=>.int p.1 p.2)/\xs.map (·.1)=is
 | [],_,r=>⟨[],r.nil_e,rfl⟩
 | i::is,_,r=>by
  cases r with
  | cons x r =>
   obtain⟨xs,rfl,e2⟩:=k_ r;exact bl x λt=>⟨(i,t)::xs,rfl,qF _ e2⟩
theorem ints_rel{y:Y}{vs:List Value}{ns:List Int}(h:IntsAre vs ns):VsRel y (ns.map V.int) vs:=by
 induction h with
 | nil=>exact .nil
 | cons i t r ih=>exact .cons bq ih
theorem f_maxL(m:(n,O.list ((i::is).map V.int))∈L)(q:Q (.int (is.foldl max i)) fr L):HK d hd (.bi 1) [.ref n] fr L Q E:=kb λw as' _ r z=>one r λv rv=>bf w.now.rel m rv λa ob ea e ⟨vs,j,eo,rs⟩=>by
 subst eo;refine nn λno=>?_;obtain⟨xs,rfl,e2⟩:=k_ rs;refine no ?_;exact l_maxL w.now.stk.hn' e e2 λt h' k hi=>z.idle (a:=.int (is.foldl max i)) hi bq q
theorem f_max2(q:Q (.int (max i j)) fr L):HK d false (.bi 1) [.int i,.int j] fr L Q E:=kb λw as' h r z=>two r λv v' rv rv'=>bl rv λt=>bl rv' λt'=>l_max2 (w.now.at'.hd h) λt h' k hi=>z.idle (a:=.int (max i j)) hi bq q
theorem f_min2(q:Q (.int (min i j)) fr L):HK d false (.bi 2) [.int i,.int j] fr L Q E:=kb λw as' h r z=>two r λv v' rv rv'=>bl rv λt=>bl rv' λt'=>l_min2 (w.now.at'.hd h) λt h' k hi=>z.idle (a:=.int (min i j)) hi bq q
theorem f_max3(q:Q (.int (max (max i j) k)) fr L):HK d false (.bi 1) [.int i,.int j,.int k] fr L Q E:=kb λw as' h r z=>by
 cases r with
 | cons x r=>exact two r λv v' rv rv'=>bl x λt=>bl rv λt=>bl rv' λt'=>l_max3 (w.now.at'.hd h) λt h' _ hi=>z.idle (a:=.int (max (max i j) k)) hi bq q
theorem keys_map{y:Y}{es:List (Int×V)}{kvs:List (Int×Value)}(r:All2 (pD id y) es kvs):kvs.map (·.1)=es.map (·.1):=r.rec rfl λx _ ih=>by rw[List.map_cons,List.map_cons,ih];exact qF (·::_) x.1.symm
theorem f_sort{es:List (Int×V)}(m:(n,O.dict es)∈L)(hp:is.Perm (es.map (·.1)))(hs:is.Pairwise (·<=·))(h1:es.length<64)(q:Al (.list (is.map V.int)) L λm L=>Q (.ref m) fr L):HK d false (.bi 3) [.ref n] fr L Q E:=kb λw as' h r z=>one r λv rv=>eJ w.now.rel m rv λa ob kvs ea e _ D er =>
 l_sortD (w.now.at'.hd h) D (w.now.rel.notSys ea) (er.len.symm▸h1) (keys_map er▸hp) hs λD h' k vs m hi hD ho hr=>z.made hi hD ho q λmm em y' yl=>⟨vs,m,rfl,ints_rel hr⟩
theorem jr{y:Y}:∀{bs:List UInt8} {vs:List Value},vs.length=bs.length->(∀(j:Nat) (v:Value),vs[j]?=some v->∃c u,bs[j]?=some c/\v=Value.int (c.toNat:Int) u)->VsRel y (bs.map λb=>.int b.toNat) vs
 | [],[],_,_=>.nil
 | b::bs,v::vs,e,H=>by
  obtain⟨c,u,e1,rfl⟩:=H 0 v rfl;cases e1;exact .cons bq (jr (Nat.succ.inj e) λj v hj=>H (j+1) v hj)
 | [],_::_,e,_=>nomatch e
 | _::_,[],e,_=>nomatch e
theorem f_listB{bs:List UInt8}(m:(n,O.barr bs)∈L)(h0:bs.length<=1000000)(q:Al (.list (bs.map λb=>.int b.toNat)) L λm L=>Q (.ref m) fr L):HK d false (.ty 1) [.ref n] fr L Q E:=kt λw as' h r z=>one r λv rv=>bf w.now.rel m rv λa ob ea e eo=>by
 cases eo;exact l_listB (w.now.at'.hd h) e h0 λD h' k vs m hi hD ho hl hr=>z.made hi hD ho q λmm em y' yl=>⟨vs,m,rfl,jr hl hr⟩
theorem f_byR{a b:Int}{x:UInt8}{bs:List UInt8}(h0:mA (b - a).toNat a=some (x::bs))(h1:(x::bs).length<=1000000)(q:Q (.bytes (x::bs)) fr L):HK d false (.ty 3) [.rng a b] fr L Q E:=kt λw as' h r z=>one r λv rv=>by
 refine nn λno=>?_;obtain⟨r,rfl,t,u,v,rr⟩:=rv.now;refine no ?_;exact l_bytesR (w.now.at'.hd h) rr h0 h1 λt h' k hi=>z.idle (a:=.bytes (x::bs)) hi lY q
theorem ints_are{y:Y}{is:List Int}{vs:List Value}(r:VsRel y (is.map V.int) vs):IntsAre vs is:=by
 induction is generalizing vs with
 | nil=>cases r;exact .nil
 | cons i is ih=>cases r with|cons x r=>exact bl x λt=>.cons i t (ih r)
theorem f_byL(m:(n,O.list (is.map V.int))∈L)(h0:∀n∈is,0<=n/\n<256)(h1:is.length<=1000000)(q:Q (.bytes (is.map λn=>n.toNat.toUInt8)) fr L):HK d false (.ty 3) [.ref n] fr L Q E:=kt λw as' h r z=>one r λv rv=>bf w.now.rel m rv λa ob ea e ⟨vs,j,eo,rs⟩=>by
 subst eo;exact l_bytesL (w.now.at'.hd h) e (ints_are rs) h0 (by rw[rs.len,qG];exact h1) λt h' k hi=>z.idle (a:=.bytes (is.map λn=>n.toNat.toUInt8)) hi lY q
theorem bys_of{y:Y}:∀{bs:List (List UInt8)} {vs:List Value},VsRel y (bs.map V.bytes) vs->BysRel vs (bs.map λb=>⟨b⟩)
 | [],_,r=>by cases r;exact .nil
 | b::bs,_,r=>by
  cases r with
  | cons x r=>exact lz x λt=>.cons (bys_of r)
theorem p4(bs:List (List UInt8)):((bs.map λb=>(⟨b⟩:Array UInt8)).flatMap (·.toList))=bs.flatten:=by rw[List.flatMap_map];exact List.flatMap_id'
theorem k_join{bs:List (List UInt8)}(m:(n,O.list (bs.map V.bytes))∈L)(h1:bs.flatten.length<=1000000)(h2:2<=bs.length)(q:Q (.bytes bs.flatten) fr L):pE d hd (.bi 2 [.bytes []]) [.ref n] fr L Q E:=ie λw ps as' _ r ra z=>one r λv rv=>one ra λu ru=>lz rv λt=>bf w.now.rel m ru λa ob ea e ⟨vs,j,eo,rs⟩=>by
 subst eo;refine c_joinL e (bys_of rs) (by rw[p4];exact h1) (by rw[rs.len,qG];exact h2) λt k=>?_;rw[p4];exact z.toks (a:=.bytes bs.flatten) lY q
theorem k_ofR{bs:List UInt8}(m:(n,O.barr bs)∈L)(h1:bs.length=4)(q:Q (.int (bn bs)) fr L):pE d hd .frb [.ref n,.str [108,105,116,116,108,101]] fr L Q E:=λg w p as e1 e2 rm ra z=>by
 obtain⟨a,rfl,e,_⟩:=rm;exact⟨ig e,two ra λk x ri rx=>bf w.now.rel m ri λa ob ea eb eo=>by
  cases eo;exact iY rx λt=>qm e eb h1 λt k h' hi=>z.idle (a:=.int (bn bs)) hi bq q⟩
end
end
section
section
variable {fr:Fr} {L L':Hp} {d:Nat} {hd:Bool} {E:Hd->Fr->Hp->Prop} {n:Hd} {i j k:Int} {Q:V->Fr->Hp->Prop} {a:Nat} {us:List V}
theorem kf(h:(look a T.fns).isSome=true)(q:jp d hd a us fr L Q E):HK (d+1) hd (.top a) us fr L Q E:=k_top h (dg q)
theorem aJ{b:Bool}{p q:Prop}(h:b=true)(x:p):If b p q:=h▸x
theorem aB{b:Bool}{p q:Prop}(h:b=false)(x:q):If b p q:=h▸x
theorem lU(h:i<j):decide (i<j)=true:=decide_eq_true h
theorem qh(h:j<=i):decide (i<j)=false:=decide_eq_false (Int.not_lt.mpr h)
noncomputable def Dw{α:Type}(Q:α->Fr->Hp->Prop)(v:α)(fr:Fr)(L:Hp):Prop:=∃L',List.Sublist L' L/\Q v fr L'
theorem Rel.sub_{y:Y}(R:Rel y L)(s:List.Sublist L' L):Rel y L':=⟨R.up,R.fin,R.inj,R.sub,R.new,R.lt,R.keys.sublist s,λn o m=>R.obj n o (s.subset m)⟩
noncomputable def Wn.drop{g:G}(w:Wn g fr L)(s:List.Sublist L' L):Wn g fr L':=⟨w.y,w.now.at',w.now.rel.sub_ s,w.now.fr',w.now.stk⟩
theorem Fz.dw{g:G}{w:Wn g fr L}(z:Fz VRel w Q E):∃z':Fz VRel w (Dw Q) (Dw E),z'.P=z.P/\z'.X=z.X :=
 ⟨.mk z.P z.X ⟨λw' a b l r ⟨L',s,q⟩=>z.ok (w'.drop s) a b l r q,λw' n e l x ⟨L',s,q⟩=>z.ex (w'.drop s) n e l x q⟩,rfl,rfl⟩
theorem HK.dw{f:V}(h:HK d hd f us fr L (Dw Q) (Dw E)):HK d hd f us fr L Q E:=λg w gv vs e1 e2 r rs z=>z.dw.elim λz' e=>e.1▸e.2▸h w e1 e2 r rs z'
theorem dw0{α:Type}{Q:α->Fr->Hp->Prop}{v:α}(q:Q v fr L):Dw Q v fr L:=⟨L,.refl _,q⟩
theorem dw1{α:Type}{Q:α->Fr->Hp->Prop}{v:α}{p:Hd×O}(q:Q v fr L):Dw Q v fr (p::L):=⟨L,.cons _ (.refl _),q⟩
theorem HK.less{f:V}(s:List.Sublist L' L)(h:HK d hd f us fr L' Q E):HK d hd f us fr L Q E:=λg w gv vs e1 e2 r rs z=>h (w.drop s) e1 e2 r rs (.mk z.P z.X ⟨λw' a b l=>z.ok w' a b l,λw' n e l=>z.ex w' n e l⟩)
noncomputable abbrev aw(mem:List UInt8)(t n:Nat):List UInt8:=(mem.drop t).take n
noncomputable abbrev ay(mem:List UInt8)(t:Nat)(w:List UInt8):List UInt8:=mem.take t++(w++mem.drop (t+w.length))
theorem cV{n t:Nat}(h:t<=n):clipAt n (t:Int)=t:=by
 unfold clipAt;refine(if_neg (Int.not_lt.mpr (Int.natCast_nonneg t))).symm▸?_;refine(Int.min_eq_left (Int.ofNat_le.mpr h)).symm▸?_;refine(Int.max_eq_right (Int.natCast_nonneg t)).symm▸?_;rfl
variable {mem w:List UInt8} {t u m:Nat}
theorem cut_nat(h:t+m<=mem.length):bG (some (t:Int)) (some ((t+m:Nat):Int)) mem=aw mem t m:=by
 show(mem.take (clipAt mem.length ((t+m:Nat):Int))).drop (clipAt mem.length (t:Int))=_;rw[cV h,cV (qC (qI _ _) h),List.drop_take,Nat.add_sub_cancel_left]
theorem aQ(h:t+m<=mem.length):(aw mem t m).length=m:=by
 rw[List.length_take,List.length_drop];exact Nat.min_eq_left (Nat.le_sub_of_add_le (Nat.add_comm t m▸h))
theorem b8(h:t+w.length<=mem.length):(ay mem t w).length=mem.length:=by
 rw[List.length_append,List.length_append,List.length_take,List.length_drop,Nat.min_eq_left (qC (qI _ _) h),<-Nat.add_assoc,Nat.add_sub_cancel' h]
structure Ad (i:Int) (t m:Nat):Prop where
 e:i=((1024+t:Nat):Int)
 h:t+m<=3072
theorem Ad.nat{t m:Nat}(h:t+m<=3072):Ad ((1024+t:Nat):Int) t m:=⟨rfl,h⟩
theorem Ad.s{i:Int}(h:Ad i t m):i - 1024=(t:Int):=by rw[h.e,Nat.add_comm];exact Int.add_sub_cancel t 1024
theorem Ad.ge{i:Int}(h:Ad i t m):decide (i - 1024<0)=false:=by rw[h.s];rfl
theorem Ad.le{i:Int}(h:Ad i t m):decide (3072<i - 1024+m)=false:=by rw[h.s];exact qh (Int.ofNat_le.mpr h.h)
theorem Ad.cl{i:Int}(h:Ad i t m)(hm:mem.length=3072):t=clipAt mem.length (t:Int):=(cV (hm▸qC (qI _ _) h.h)).symm
theorem Ad.ch{i:Int}(h:Ad i t m)(hm:mem.length=3072):t+m=clipAt mem.length ((t:Int)+m):=(cV (hm▸h.h)).symm
theorem Ad.cut{i:Int}(h:Ad i t m)(hm:mem.length=3072):bG (some (t:Int)) (some ((t:Int)+m)) mem=aw mem t m:=cut_nat (hm▸h.h)
theorem Ad.sz{i:Int}(h:Ad i t m):m<=1000000:=qC (qC (Nat.le_add_left _ _) h.h) (by decide)
theorem d1(hm:mem.length=3072):mem.length<=1000000:=hm▸(by decide)
structure Ms where
 rg:List Nat
 mem:List UInt8
 pc:Nat
 st:Int
 dn:Bool
 out:List UInt8
 kn:List (Int×V)
theorem zm:Nonempty Ms:=⟨[],[],0,0,false,[],[]⟩
noncomputable def Ms.sMem(s:Ms)(m:List UInt8):Ms:={s with mem:=m}
noncomputable def Ms.sRg(s:Ms)(r:List Nat):Ms:={s with rg:=r}
noncomputable def Ms.sPc(s:Ms)(p:Nat):Ms:={s with pc:=p}
noncomputable def Ms.sOut(s:Ms)(o:List UInt8):Ms:={s with out:=o}
noncomputable def Ms.sKn(s:Ms)(k:List (Int×V)):Ms:={s with kn:=k}
noncomputable def iU(rg:List Nat):O:=.list (rg.map λ(x:Nat)=>V.int (x:Int))
noncomputable def am(s:Ms)(lg:V)(lo:O)(F:Hp):Hp :=
 (.l 5,.inst 484 (.l 6))::(.l 6,.ns [(40,.int 1024),(118,.int 3072),(119,.ref (.l 8)),(15,.ref (.l 7)),(18,.int s.pc),(121,.ref (.l 9)),(20,.int s.st),(19,.bool s.dn),(21,lg),(122,.ref (.l 10))]) ::
 (.l 7,iU s.rg)::(.l 8,.barr s.mem)::(.l 9,.barr s.out)::(.l 10,.dict s.kn)::(.l 11,lo)::F
noncomputable def aA(s:Ms)(es:List V)(F:Hp):Hp:=am s (.ref (.l 11)) (.list es) F
variable {s:Ms} {lg:V} {lo:O} {es:List V} {F:Hp}
noncomputable def Tr(w:List Nat)(E:Hd->Fr->Hp->Prop)(fr:Fr)(L:Hp):Prop:=∀(n k:Nat) (pc:Nat),E (.s n) fr ((.s k,.ns [(9,.str w),(11,.int pc)])::(.s n,.exc 58 (some (.s k)))::L)
noncomputable def oL:List Nat:=[109,101,109,111,114,121]
theorem f8{ws:List Nat}{pc:Nat}(q:∀n k,Q (.ref (.s n)) fr ((.s k,.ns [(9,.str ws),(11,.int pc)])::(.s n,.exc 58 (some (.s k)))::L)):HK (d+3) hd (.top 58) [.str ws,.int pc] fr L Q E:=by
 refine k_newE rfl rfl rfl (.sym0 λn=>?_);refine dg ?_;refine mc_cls rfl rfl ?_;refine kf rfl ?_;refine mc_exi ?_;refine k_exi (.head _) ?_;refine o0 (l:=[]) rfl rfl λk=>?_;refine cr (.exc (.tail _ (.head _)) (.head _) rfl) ⟨[],_,rfl,rfl⟩ rfl ?_;exact⟨rfl,q n k⟩
theorem place{i:Int}(h:Ad i t m)(q:Q (.int t) fr (am s lg lo F)):HK (d+1) hd (.top 376) [.ref (.l 5),.int i,.int m] fr (am s lg lo F) Q E:=by
 refine kf rfl ?_;refine aB h.ge ?_;refine aB h.le ?_;exact h.s.symm▸q
theorem load{i:Int}(hm:s.mem.length=3072)(h:Ad i t w.length)(q:Q .non fr (am (s.sMem (ay s.mem t w)) lg lo F)):HK (d+2) hd (.top 383) [.ref (.l 5),.int i,.bytes w] fr (am s lg lo F) Q E:=by
 refine kf rfl ?_;refine dI h.sz ?_;refine place h ?_;refine dI h.sz ?_;refine gI (aa rfl) (d1 hm) (.int _) (.int _) (h.cl hm) (h.ch hm) rfl ?_;exact q
theorem place_no{i:Int}(e:i=(u:Int))(h:u<1024\/4096<u+m)(q:Tr oL E fr (am s lg lo F)):HK (d+4) false (.top 376) [.ref (.l 5),.int i,.int m] fr (am s lg lo F) Q E:=by
 subst e;refine kf rfl ?_;by_cases c:(u:Int) - 1024<0
 .refine aJ (decide_eq_true c) ?_;refine f8 λn k=>?_;exact⟨_,_,_,rfl,.tail _ (.head _),q n k _⟩
 .refine aB (decide_eq_false c) ?_;refine aJ (lU (h.elim (λh=>(c (Int.sub_neg_of_lt (Int.ofNat_lt.mpr h))).elim) λh=>(Int.add_right_comm (u:Int) (-1024) m).symm▸Int.lt_sub_right_of_add_lt (a:=3072) (b:=1024) (Int.ofNat_lt.mpr h))) ?_;refine f8 λn k=>?_;exact⟨_,_,_,rfl,.tail _ (.head _),q n k _⟩
theorem read{i:Int}(hm:s.mem.length=3072)(h:Ad i t m)(q:Q (.bytes (aw s.mem t m)) fr (am s lg lo F)):HK (d+2) hd (.top 390) [.ref (.l 5),.int i,.int m] fr (am s lg lo F) Q E:=by
 exists hm h q,zF fr,zN d,zB hd,aK E,aK Q,zN t,zN m,zm s,zv lg,zo lo,zL F,zI i;refine .dw (kf rfl ?_);refine place h ?_;refine lV (a9 rfl) (d1 hm) (.int _) (.int _) (.sym0 λn=>?_);refine lp (.head _) ?_ ?_
 .rw[h.cut hm,aQ (hm▸h.h)];exact h.sz
 .rw[h.cut hm];exact dw1 q
variable {x u':V}
theorem note(hl:es.length<=1000000)(q:Q .non fr (aA s (es++[x]) F)):HK (d+1) hd (.top 425) [.ref (.l 5),x] fr (aA s es F) Q E:=by
 refine kf rfl ?_;refine bM (a9 rfl) ?_;refine cb (aa rfl) hl ?_;exact q
noncomputable def pcS:List Nat:=[112,99]
theorem begin_(hl:es.length<=1000000)(q:Q .non fr (aA s (es++[.tup [.str pcS,.int s.pc]]) F)):HK (d+2) hd (.top 432) [.ref (.l 5)] fr (aA s es F) Q E:=by
 refine kf rfl ?_;refine note hl ?_;exact q
theorem kP(p:Nat):Builtin.bitAnd (p:Int) 4294967295=((p % 4294967296:Nat):Int):=by
 show((p &&& 4294967295:Nat):Int)=_;rw[show 4294967295=2 ^ 32 - 1 from rfl,Nat.and_two_pow_sub_one_eq_mod]
theorem go{p:Nat}(h:p<4294967296)(q:Q .non fr (am (s.sPc p) lg lo F)):HK (d+1) hd (.top 439) [.ref (.l 5),.int p] fr (am s lg lo F) Q E:=by
 refine kf rfl ?_;have e:=kP p;rw[Nat.mod_eq_of_lt h] at e;refine(?_:Q .non fr (il 6 (.ns [(40,.int 1024),(118,.int 3072),(119,.ref (.l 8)),(15,.ref (.l 7)),(18,.int (Builtin.bitAnd p 4294967295)),(121,.ref (.l 9)),(20,.int s.st),(19,.bool s.dn),(21,lg),(122,.ref (.l 10))]) (am s lg lo F)));refine(e).symm▸?_;exact q
noncomputable def mE(t:Nat)(w:List UInt8):V:=.tup [.str [109],.int ((1024+t:Nat):Int),.bytes w]
theorem write{i:Int}(hl:es.length<=1000000)(hm:s.mem.length=3072)(h:Ad i t w.length)(q:Q .non fr (aA (s.sMem (ay s.mem t w)) (es++[mE t (aw s.mem t w.length)]) F)):
  HK (d+2) hd (.top 397) [.ref (.l 5),.int i,.bytes w] fr (aA s es F) Q E:=by
 exists hl hm h q,zF fr,zN d,zB hd,aK E,aK Q,zL w,zN t,zm s,zL es,zL F,zI i;have e:=h.e;subst e;refine .dw (kf rfl ?_);refine dI h.sz ?_;refine place h ?_;refine dI h.sz ?_;refine lV (a9 rfl) (d1 hm) (.int _) (.int _) (.sym0 λn=>?_);refine lp (.head _) ?_ ?_
 .rw[h.cut hm,aQ (hm▸h.h)];exact h.sz
 .rw[h.cut hm];refine .less (.cons _ (.refl _)) (note hl ?_);refine dI h.sz ?_;refine gI (aa rfl) (d1 hm) (.int _) (.int _) (h.cl hm) (h.ch hm) rfl ?_;exact dw0 q
theorem fG{i n:Nat}(h:i<n)(hn:n<=1000000):iX (i:Int) n=some i:=by
 unfold iX;refine(show decide ((i:Int).natAbs<2 ^ 62)=true from decide_eq_true (qL (qL h hn) (by decide))).symm▸?_;refine(show Nat.blt (i:Int).toNat n=true from Nat.blt_eq.mpr h).symm▸?_;rfl
noncomputable def ah(rg:List Nat)(i:Nat):Nat:=(rg[i]?).getD 0
variable {rg:List Nat} {i v:Nat} {R:Unit->Fr->Hp->Prop}
theorem dP(h:i<rg.length):rg[i]?=some (ah rg i):=by unfold ah;rw[List.getElem?_eq_getElem h];rfl
theorem b6(m:(n,iU rg)∈L)(hr:rg.length=32)(h:i<32)(q:Q (.int (ah rg i)) fr L):HI (.ref n) (.int i) fr L Q E :=
 x_list m (fG (by rw[qG,hr];exact h) (by rw[qG,hr];decide)) (by rw[List.getElem?_map,dP (hr▸h)];rfl) q
theorem ks(c:Chg L n (iU rg) (iU (rg.set i v)) L')(hr:rg.length=32)(h:i<32)(q:R () fr L'):UI (.ref n) (.int i) (.int v) fr L R E :=
 lZ (l:=rg.map λ(x:Nat)=>V.int (x:Int)) (j:=i) (by unfold iU at c;rw[List.map_set] at c;exact c) (fG (by rw[qG,hr];exact h) (by rw[qG,hr];decide)) q
noncomputable def rS:List Nat:=[114]
theorem put0{x:V}(q:Q .non fr L):HK (d+1) hd (.top 404) [x,.int 0,u'] fr L Q E:=by
 refine kf rfl ?_;exact q
theorem neq{i j:Int}(h:i≠j):(!ai i j)=true:=by unfold ai;rw[decide_eq_false h];rfl
noncomputable def dy(v:Int):Nat:=(v % 4294967296).toNat
theorem b4(v:Int):((dy v:Nat):Int)=v % 4294967296:=Int.toNat_of_nonneg (Int.emod_nonneg _ (by decide))
theorem bN(v:Int):Builtin.bitAnd v 4294967295=(dy v:Int):=(PySem.W.kbt_mask v 32).trans (b4 v).symm
theorem put_{v:Int}(hl:es.length<=1000000)(hr:s.rg.length=32)(h0:i≠0)(h:i<32)(q:Q .non fr (aA (s.sRg (s.rg.set i (dy v))) (es++[.tup [.str rS,.int i,.int (ah s.rg i)]]) F)):
  HK (d+2) hd (.top 404) [.ref (.l 5),.int i,.int v] fr (aA s es F) Q E:=by
 exists hl hr h0 h q,zF fr,zN d,zB hd,aK E,aK Q,zm s,zL es,zL F,zN i,zI v;refine kf rfl ?_;refine aJ (neq λz=>h0 (Int.ofNat_inj.mp z)) ?_;refine b6 (a9 rfl) hr h ?_;refine note hl ?_;refine(show ∀{x:Int} (_:x=((dy v:Nat):Int)),UI _ _ (.int x) _ _ _ _ from λe=>e▸ks (aa rfl) hr h ?_) (bN v);exact q
theorem goal{p:Nat}{x:V}(h:p % 4=0)(h2:p<4294967296)(q:Q (.int p) fr L):HK (d+1) hd (.top 418) [x,.int p] fr L Q E:=by
 refine kf rfl ?_;have e3:Builtin.bitAnd (p:Int) 3=0:=by
  refine(?_:((p &&& 3:Nat):Int)=_);rw[show 3=2 ^ 2 - 1 from rfl,Nat.and_two_pow_sub_one_eq_mod];exact qF _ h
 refine aB (by show(!ai _ _)=false;rw[e3];rfl) ?_;have e:=kP p;rw[Nat.mod_eq_of_lt h2] at e;refine(?_:Q (.int (Builtin.bitAnd p 4294967295)) fr L);rw[e];exact q
end
end
section
section
variable {fr:Fr} {L L':Hp} {d:Nat} {hd:Bool} {E:Hd->Fr->Hp->Prop} {n:Hd} {Q:V->Fr->Hp->Prop}
inductive Row where
 | addi (a b:Nat) (c:Int)|alu (k a b c:Nat)|mem (st:Bool) (a b:Nat) (c:Int)|ecall|bad|ret
theorem zr:Nonempty Row:=⟨.ecall⟩
noncomputable def nz:Nat->List Nat
 | 0=>[97,100,100]
 | 1=>[115,117,98]
 | 2=>[120,111,114]
 | _=>[109,117,108]
noncomputable def eA:Bool->List Nat
 | true=>[115,119]
 | false=>[108,119]
noncomputable def Row.v:Row->V
 | .addi a b c=>.tup [.str [97,100,100,105],.int a,.int b,.int c]
 | .alu k a b c=>.tup [.str (nz k),.int a,.int b,.int c]
 | .mem st a b c=>.tup [.str (eA st),.int a,.int b,.int c]
 | .ecall=>.tup [.str [101,99,97,108,108],.int 0,.int 0,.int 0]
 | .bad=>.tup [.str [98,97,100],.int 0,.int 0,.int 0]
 | .ret=>.tup [.str [114,101,116],.int 0,.int 0,.int 0]
noncomputable def eQ(f y l x c:Nat):Nat:=128*(32*(8*(32*f+y)+l)+x)+c
noncomputable def iQ(c:Int):Nat:=(c % 4096).toNat
noncomputable def aluH:Nat->Nat
 | 1=>32
 | 3=>1
 | _=>0
noncomputable def lP:Nat->Nat
 | 2=>4
 | _=>0
noncomputable def Row.word:Row->Nat
 | .addi a b c=>eQ (iQ c) b 0 a 19
 | .alu k a b c=>eQ (32*aluH k+c) b (lP k) a 51
 | .mem false a b c=>eQ (iQ c) b 2 a 3
 | .mem true a b c=>eQ (32*(iQ c / 32)+a) b 2 (iQ c % 32) 35
 | .ecall=>115
 | .bad=>0
 | .ret=>32871
noncomputable def Row.dec:Row->V
 | .bad=>.non
 | .ret=>.tup [.str [106,97,108,114],.int 0,.int 1,.int 0]
 | r=>r.v
structure C12 (c:Int):Prop where
 lo:-2048<=c
 hi:c<2048
noncomputable def Row.ok:Row->Prop
 | .addi a b c=>a<32/\b<32/\C12 c
 | .alu k a b c=>k<4/\a<32/\b<32/\c<32
 | .mem _ a b c=>a<32/\b<32/\C12 c
 | _=>True
theorem dm{n q r:Nat}(h:r<n):(n*q+r) / n=q/\(n*q+r) % n=r :=
 ⟨by rw[Nat.mul_add_div (Nat.zero_lt_of_lt h),Nat.div_eq_of_lt h];rfl,by rw[Nat.mul_add_mod,Nat.mod_eq_of_lt h]⟩
theorem ee(w k:Nat):Builtin.bitAnd (w:Int) ((2 ^ k - 1:Nat):Int)=((w % 2 ^ k:Nat):Int):=qF Int.ofNat (Nat.and_two_pow_sub_one_eq_mod w k)
theorem cZ(w n:Nat):(w:Int).fdiv (n:Int)=((w / n:Nat):Int):=(Int.ofNat_fdiv w n).symm
structure Wf (w:Int) (f y l x c:Nat):Prop where
 c:Builtin.bitAnd w 127=(c:Int)
 l:Builtin.bitAnd (w.fdiv (2 ^ Int.toNat 12)) 7=(l:Int)
 h:w.fdiv (2 ^ Int.toNat 25)=((f / 32:Nat):Int)
 x:Builtin.bitAnd (w.fdiv (2 ^ Int.toNat 7)) 31=(x:Int)
 y:Builtin.bitAnd (w.fdiv (2 ^ Int.toNat 15)) 31=(y:Int)
 z:Builtin.bitAnd (w.fdiv (2 ^ Int.toNat 20)) 31=((f % 32:Nat):Int)
 f:w.fdiv (2 ^ Int.toNat 20)=(f:Int)
variable {f y l x c:Nat}
structure Nf (w f y l x c:Nat):Prop where
 c:w % 128=c
 x:w / 128 % 32=x
 l:w / 4096 % 8=l
 y:w / 32768 % 32=y
 f:w / 1048576=f
theorem nf(hy:y<32)(hl:l<8)(hx:x<32)(hc:c<128):Nf (eQ f y l x c) f y l x c:=by
 have e7:eQ f y l x c / 128=32*(8*(32*f+y)+l)+x:=(dm hc).1;have e12:eQ f y l x c / 4096=8*(32*f+y)+l:=by rw[show 4096=128*32 from rfl,<-Nat.div_div_eq_div_mul,e7];exact(dm hx).1
 have e15:eQ f y l x c / 32768=32*f+y:=by rw[show 32768=4096*8 from rfl,<-Nat.div_div_eq_div_mul,e12];exact(dm hl).1
 exact⟨(dm hc).2,e7▸(dm hx).2,e12▸(dm hl).2,e15▸(dm hy).2,by rw[show 1048576=32768*32 from rfl,<-Nat.div_div_eq_div_mul,e15];exact(dm hy).1⟩
theorem Nf.wf{w:Nat}(N:Nf w f y l x c):Wf w f y l x c:=by
 have a:∀(k:Nat) {i:Int} {m r:Nat},i=(m:Int)->m % 2 ^ k=r->Builtin.bitAnd i ((2 ^ k - 1:Nat):Int)=(r:Int):=λk i m r e z=>e▸(ee m k).trans (qF Int.ofNat z);have e20:=(cZ w 1048576).trans (qF Int.ofNat N.f);exact⟨a 7 rfl N.c,a 3 (cZ w 4096) N.l,(cZ w 33554432).trans (qF Int.ofNat (by rw[show 33554432=1048576*32 from rfl,<-Nat.div_div_eq_div_mul,N.f])),a 5 (cZ w 128) N.x,a 5 (cZ w 32768) N.y,a 5 e20 rfl,e20⟩
noncomputable def jF(v:Nat):Int:=if v % 4096 / 2048=1 then((v % 4096:Nat):Int) - 4096 else((v % 4096:Nat):Int)
theorem f12_nat{n:Nat}(h:n<2048):iQ (n:Int)=n:=Nat.mod_eq_of_lt (Nat.lt_trans h (by decide))
theorem f12_neg{n:Nat}(h:n<2048):iQ (Int.negSucc n)=4095 - n:=by
 refine(?_:(Int.emod (Int.negSucc n) 4096).toNat=_);refine(?_:(Int.subNatNat 4096 (n % 4096+1)).toNat=_);rw[Nat.mod_eq_of_lt (Nat.lt_trans h (by decide)),Int.subNatNat_of_le (Nat.lt_trans h (by decide))];exact Nat.succ_sub_succ 4095 n
theorem jb{c:Int}(h:C12 c):jF (iQ c)=c:=by
 unfold jF;cases c with
 | ofNat n =>
  have hn:n<2048:=Int.ofNat_lt.mp h.hi;rw[show iQ (Int.ofNat n)=n from f12_nat hn,Nat.mod_eq_of_lt (Nat.lt_trans hn (by decide)),Nat.div_eq_of_lt hn];rfl
 | negSucc n =>
  have hn:n<2048:=Nat.lt_of_succ_le (Int.ofNat_le.mp (Int.neg_le_neg_iff.mp h.lo));have e:4095 - n<4096:=r6 (Nat.sub_le _ _) (by decide);rw[f12_neg hn,Nat.mod_eq_of_lt e,if_pos (show(4095 - n) / 2048=1 from Nat.div_eq_of_lt_le (Nat.le_sub_of_add_le (by rw[Nat.add_comm];exact qQ (Nat.le_of_lt_succ hn) 2048)) e),Int.ofNat_sub (Nat.le_of_lt (Nat.lt_trans hn (by decide)))];show(4095:Int) - n - 4096=Int.negSucc n;lia
@[elab_as_elim] theorem lt4{C:Nat->Prop}{k:Nat}(h:k<4)(c0:C 0)(c1:C 1)(c2:C 2)(c3:C 3):C k:=by
 rcases k with _|_|_|_|k
 .exact c0
 .exact c1
 .exact c2
 .exact c3
 .exact absurd h (Nat.not_lt.mpr (Nat.le_add_left 4 k))
theorem bj{i j:Int}(h:i=j):ai i j=true:=decide_eq_true h
theorem bB{i j:Int}(h:i≠j):ai i j=false:=decide_eq_false h
theorem dB{v:Nat}{i:Int}(e:i=(v:Int))(q:Q (.int (jF v)) fr L):HK (d+1) hd (.top 264) [.int i,.int 12] fr L Q E:=by
 subst e;refine kf rfl ?_;have e1:Builtin.bitAnd (v:Int) (1*2 ^ Int.toNat 12 - 1)=((v % 4096:Nat):Int):=ee v 12;have e2:(Builtin.bitAnd (v:Int) (1*2 ^ Int.toNat 12 - 1)).fdiv (2 ^ Int.toNat (12 - 1))=((v % 4096 / 2048:Nat):Int):=by rw[e1];exact cZ _ _
 unfold jF at q;by_cases z:v % 4096 / 2048=1
 .refine aJ (bj (e2.trans (qF Int.ofNat z))) ?_;rw[if_pos z,<-e1] at q;exact q
 .refine aB (bB λh=>z (Int.ofNat_inj.mp (e2.symm.trans h))) ?_;rw[if_neg z,<-e1] at q;exact q
theorem told{op:List Nat}{i j k i' j' k':Int}(h:aF op []=false)(e1:i=i')(e2:j=j')(e3:k=k')(q:Q (.tup [.str op,.int i',.int j',.int k']) fr L):HK (d+1) hd (.top 285) [.str op,.int i,.int j,.int k] fr L Q E:=by
 subst e1 e2 e3;refine kf rfl ?_;refine aJ (by rw[h];rfl) ?_;exact q
theorem dD{w lo hi:Int}(W:Wf w f y 0 x 19)(e:lo=0)(q:Q (.tup [.str [97,100,100,105],.int x,.int y,.int (jF f)]) fr L):HK (d+2) hd (.top 299) [.int w,.int lo,.int hi] fr L Q E:=by
 subst e;refine kf rfl ?_;refine dB W.f ?_;exact told rfl W.x W.y rfl q
theorem fg{w lo hi:Int}{k:Nat}(hk:k<4):∀(_:Wf w f y (lP k) x 51) (_:lo=(lP k:Int)) (_:hi=(aluH k:Int)) (_:Q (.tup [.str (nz k),.int x,.int y,.int ((f % 32:Nat):Int)]) fr L),HK (d+2) hd (.top 292) [.int w,.int lo,.int hi] fr L Q E:=by
 refine lt4 hk ?_ ?_ ?_ ?_<;>(intro W e1 e2 q;subst e1 e2;refine kf rfl ?_;exact told rfl W.x W.y W.z q)
theorem bl_t{α:Type}{b:Bool}{m n:Ab α}{fr:Fr}{L:Hp}{Q:α->Fr->Hp->Prop}(h:b=true)(x:m fr L Q E):bg b m n fr L Q E:=by subst h;exact x
theorem op_t{α β:Type}{o:Option β}{x:β}{m:Ab α}{f:β->Ab α}{fr:Fr}{L:Hp}{Q:α->Fr->Hp->Prop}(h:o=some x)(k:f x fr L Q E):aD o m f fr L Q E:=by subst h;exact k
theorem o8{n:Nat}(h:n<18446744073709551616):kA (n:Int)=true:=decide_eq_true h
theorem jM(x:Int):Builtin.bitNot (Builtin.bitNot x)=x:=by show -(-x - 1) - 1=x;omega
theorem oB(a:Nat):decide (0<=Builtin.bitNot (a:Int))=false:=decide_eq_false (by show ¬0<=-(a:Int) - 1;omega)
theorem or_nat(a b:Nat):Builtin.bitOr (a:Int) (b:Int)=((a ||| b:Nat):Int):=by
 unfold Builtin.bitOr Builtin.bitAnd;rw[oB,oB];show Builtin.bitNot (Builtin.bitNot (((Builtin.bitNot (Builtin.bitNot (a:Int))).toNat ||| (Builtin.bitNot (Builtin.bitNot (b:Int))).toNat:Nat):Int))=_;rw[jM,jM,jM];rfl
theorem or_low{h l:Nat}(hl:l<32):Builtin.bitOr ((h:Int)*2 ^ Int.toNat 5) (l:Int)=((32*h+l:Nat):Int):=by
 rw[show(h:Int)*2 ^ Int.toNat 5=((2 ^ 5*h:Nat):Int) from by rw[Nat.mul_comm];rfl,show 32*h+l=2 ^ 5*h ||| l from Nat.two_pow_add_eq_or_of_lt (i:=5) hl h];exact or_nat _ _
theorem pt(k:Nat):lP k<8:=by unfold lP;split<;>decide
theorem Wf.no{w:Int}{f y l x c:Nat}(W:Wf w f y l x c){i:Int}(h:ai (c:Int) i=false):ai (Builtin.bitAnd w 127) i=false:=W.c.symm▸h
theorem gj{r:Row}(ok:r.ok)(q:Q r.dec fr L):HK (d+3) hd (.top 306) [.int (r.word:Nat)] fr L Q E:=by
 exists ok q,zF fr,zL L,zN d,zB hd,aK E,aK Q,zr r;cases r with
 | addi a b c =>
  have W:Wf (Row.word (.addi a b c):Nat) _ _ _ _ _:=(nf ok.2.1 (by decide) ok.1 (by decide)).wf;refine kf rfl ?_;refine aJ (bj W.c) ?_;refine dD W W.l ?_;refine(jb ok.2.2).symm▸?_;exact q
 | alu k a b c =>
  have e:=dm (n:=32) (q:=aluH k) ok.2.2.2;have W:Wf (Row.word (.alu k a b c):Nat) _ _ _ _ _:=(nf ok.2.2.1 (pt k) ok.2.1 (by decide)).wf;refine kf rfl ?_;refine aB (W.no rfl) ?_;refine aJ (bj W.c) ?_;refine fg ok.1 W W.l (W.h.trans (qF Int.ofNat e.1)) ?_;refine(e.2).symm▸?_;exact q
 | mem st a b c=>cases st with
  | false =>
   have W:Wf (Row.word (.mem false a b c):Nat) _ _ _ _ _:=(nf ok.2.1 (by decide) ok.1 (by decide)).wf;refine kf rfl ?_;refine aB (W.no rfl) ?_;refine aB (W.no rfl) ?_;refine aJ (bj W.c) ?_;refine op_t (x:=2) (by rw[W.l];rfl) ?_;refine dB W.f ?_;refine told rfl W.x W.y (jb ok.2.2) ?_;exact q
  | true =>
   have e:=dm (n:=32) (q:=iQ c / 32) ok.1;have h2:iQ c % 32<32:=Nat.mod_lt _ (by decide);have W:Wf (Row.word (.mem true a b c):Nat) _ _ _ _ _:=(nf ok.2.1 (by decide) h2 (by decide)).wf;have h3:iQ c / 32<18446744073709551616:=r6 (Nat.div_le_self _ _) (Nat.lt_trans (show iQ c<4096 from(Int.toNat_lt (Int.emod_nonneg _ (by decide))).mpr (Int.emod_lt_of_pos _ (by decide))) (by decide));refine kf rfl ?_;refine aB (W.no rfl) ?_;refine aB (W.no rfl) ?_;refine aB (W.no rfl) ?_;refine aJ (bj W.c) ?_;refine op_t (x:=2) (by rw[W.l];rfl) ?_;refine bl_t (show kA _=true from by rw[W.h,e.1];exact o8 h3) ?_;refine dB (v:=iQ c) (by rw[W.h,W.x,e.1,or_low h2,Nat.div_add_mod]) ?_;refine told rfl (W.z.trans (qF Int.ofNat e.2)) W.y (jb ok.2.2) ?_;exact q
 | ecall =>
  refine kf rfl ?_;exact q
 | bad =>
  refine kf rfl ?_;exact q
 | ret =>
  refine kf rfl ?_;refine dB (v:=0) rfl ?_;exact q
noncomputable def aluD(l h:Nat):List Nat:=if l=4 then [120,111,114] else if h=32 then [115,117,98] else if h=1 then [109,117,108] else [97,100,100]
noncomputable def decF(c x y l f:Nat):V :=
 if c=19 then .tup [.str [97,100,100,105],.int (x:Nat),.int (y:Nat),.int (jF f)]
 else if c=51 then .tup [.str (aluD l (f / 32)),.int (x:Nat),.int (y:Nat),.int (f % 32:Nat)]
 else if c=3 then .tup [.str (eA false),.int (x:Nat),.int (y:Nat),.int (jF f)]
 else if c=35 then .tup [.str (eA true),.int (f % 32:Nat),.int (y:Nat),.int (jF (32*(f / 32)+x))]
 else if c=115 then Row.ecall.dec
 else if c=103 then Row.ret.dec
 else .non
noncomputable def qi(w:Nat):V:=decF (w % 128) (w / 128 % 32) (w / 32768 % 32) (w / 4096 % 8) (w / 1048576)
theorem Nf.dec{w f y l x c:Nat}(N:Nf w f y l x c):qi w=decF c x y l f:=by
 unfold qi;rw[N.c,N.x,N.y,N.l,N.f]
theorem dec_N{r:Row}(ok:r.ok):qi r.word=r.dec:=by
 cases r with
 | addi a b c=>exact(Nf.dec (w:=Row.word (.addi a b c)) (nf ok.2.1 (by decide) ok.1 (by decide))).trans (qF (λz=>V.tup [.str [97,100,100,105],.int a,.int b,.int z]) (jb ok.2.2))
 | alu k a b c =>
  have e:=dm (n:=32) (q:=aluH k) ok.2.2.2;refine(Nf.dec (w:=Row.word (.alu k a b c)) (nf ok.2.2.1 (pt k) ok.2.1 (by decide))).trans ?_;refine(show decF 51 a b (lP k) _=V.tup [.str (aluD (lP k) _),.int a,.int b,.int (_:Nat)] from rfl).trans ?_;rw[e.1,e.2];exact lt4 ok.1 rfl rfl rfl rfl
 | mem st a b c=>cases st with
  | false=>exact(Nf.dec (w:=Row.word (.mem false a b c)) (nf ok.2.1 (by decide) ok.1 (by decide))).trans (qF (λz=>V.tup [.str (eA false),.int a,.int b,.int z]) (jb ok.2.2))
  | true =>
   have e:=dm (n:=32) (q:=iQ c / 32) ok.1;refine(Nf.dec (w:=Row.word (.mem true a b c)) (nf ok.2.1 (by decide) (Nat.mod_lt _ (by decide)) (by decide))).trans ?_;refine(show decF 35 _ b _ _=V.tup [.str (eA true),.int (_:Nat),.int b,.int (jF (32*_+_))] from rfl).trans ?_;rw[e.1,e.2,Nat.div_add_mod,jb ok.2.2];rfl
 | _=>rfl
end
end
section
section
variable {fr:Fr} {L L':Hp} {d:Nat} {hd:Bool} {E:Hd->Fr->Hp->Prop} {n:Hd} {Q:V->Fr->Hp->Prop} {s:Ms} {es:List V} {F:Hp} {lg:V} {lo:O}
noncomputable def qw:Nat->Int->Int->Int
 | 0,x,y=>x+y
 | 1,x,y=>x - y
 | 2,x,y=>Builtin.bitXor x y
 | _,x,y=>x*y
theorem fX{k x y:Nat}(hk:k<4)(hy:y<4294967296):∀(_:Q (.int (qw k x y)) fr L),HK (d+1) hd (.top 341) [.str (nz k),.int x,.int y] fr L Q E:=by
 refine lt4 hk ?_ ?_ ?_ ?_
 .intro q;refine kf rfl ?_;exact q
 .intro q;refine kf rfl ?_;exact q
 .intro q;refine kf rfl ?_;exact q
 .intro q;refine kf rfl ?_;refine bl_t (o8 (Nat.lt_trans hy (by decide))) ?_;exact q
theorem j6{st:Bool}(q:Q (.int 4) fr L):HK (d+1) hd (.top 355) [.str (eA st)] fr L Q E:=by
 refine .dw (kf rfl ?_);refine .sym0 λn=>?_;have h:iX 1 (eA st).length=some 1/\(eA st)[1]?=some 119:=by cases st<;>exact⟨rfl,rfl⟩
 refine j3 h.1 h.2 ?_;refine aT (.head _) rfl ?_;exact dw1 q
noncomputable def KN(kn:List (Int×V)):Prop:=∀w v,b9 ai w kn=some v->∃n:Nat,w=n/\v=qi n/\v≠.non
theorem ieq_iff(a b:Int):ai a b=true ↔ a=b:=decide_eq_true_iff
theorem fO(k k':Int)(v:V):∀l:List (Int×V),b9 ai k' (cH ai k v l)=if k=k' then some v else b9 ai k' l
 | []=>by
  refine(?_:(match ai k k' with|true=>some v|false=>none)=_);by_cases h:k=k'
  .rw[if_pos h,bj h]
  .rw[if_neg h,bB h];rfl
 | (j,u)::r=>by
  refine(?_:b9 ai k' (match ai j k with|true=>(j,v)::r|false=>(j,u)::cH ai k v r)=if k=k' then some v else(match ai j k' with|true=>some u|false=>b9 ai k' r));cases h:ai j k with
  | true =>
   have h:=(ieq_iff _ _).mp h;subst h;refine(?_:(match ai j k' with|true=>some v|false=>b9 ai k' r)=_);by_cases z:j=k'
   .rw[if_pos z,bj z]
   .rw[if_neg z,bB z]
  | false =>
   refine(?_:(match ai j k' with|true=>some u|false=>b9 ai k' (cH ai k v r))=_);rw[fO];cases z:ai j k' with
   | true=>exact(if_neg λq=>by rw[q,z] at h;cases h).symm
   | false=>rfl
theorem gQ{κ:Type}{eq:κ->κ->Bool}(k:κ)(v:V):∀l:List (κ×V),(cH eq k v l).length<=l.length+1
 | []=>qW _
 | (j,u)::r=>by
  refine(?_:(match eq j k with|true=>(j,v)::r|false=>(j,u)::cH eq k v r).length<=_);cases eq j k with
  | true=>exact Nat.le_succ _
  | false=>exact r7 (gQ k v r)
theorem KN.put{kn:List (Int×V)}(K:KN kn){n:Nat}(h:qi n≠.non):KN (cH ai (n:Int) (qi n) kn):=λw v e=>by
 rw[fO] at e;by_cases z:(n:Int)=w
 .rw[if_pos z] at e;cases e;exact⟨n,z.symm,rfl,h⟩
 .rw[if_neg z] at e;exact K w v e
noncomputable def illegalS:List Nat:=[105,108,108,101,103,97,108]
structure Pc (s:Ms) (t:Nat):Prop where
 hm:s.mem.length=3072
 e:s.pc=1024+t
 hi:t+4<=3072
 al:t % 4=0
 kn:KN s.kn
 len:s.kn.length<=999999
variable {t:Nat}
theorem Pc.ad(P:Pc s t):Ad (s.pc:Int) t 4:=⟨qF Int.ofNat P.e,P.hi⟩
theorem Pc.al'(P:Pc s t):s.pc % 4=0:=P.e▸(Nat.mul_add_mod 4 256 t).trans P.al
theorem Pc.pc4(P:Pc s t):s.pc+4<4294967296:=P.e▸r6 (qN P.hi 1024) (by decide)
theorem and3{p:Nat}(h:p % 4=0):(!ai (Builtin.bitAnd (p:Int) 3) 0)=false:=by rw[show Builtin.bitAnd (p:Int) 3=((p % 4:Nat):Int) from ee p 2,h];rfl
theorem fetched{r:Row}(P:Pc s t)(ok:r.ok)(hn:r.dec≠.non)(hw:bn (aw s.mem t 4)=r.word)(q:∀kn',KN kn'->kn'.length<=s.kn.length+1->Q r.dec fr (am (s.sKn kn') lg lo F)):
  HK (d+4) false (.top 411) [.ref (.l 5)] fr (am s lg lo F) Q E:=by
 exists P ok hn hw q,zF fr,zN d,aK E,aK Q,zm s,zL F,zv lg,zo lo,zN t,zr r;refine kf rfl ?_;refine aB (and3 P.al') ?_;refine jR ?_;refine read P.hm P.ad ?_;refine k_ofB (aQ (P.hm▸P.hi)) ?_;refine(hw).symm▸?_;have e:=dec_N ok;by_cases z:(b9 ai (r.word:Int) s.kn).isSome=true
 .refine nn λno=>?_;obtain⟨v,hv⟩:=Option.isSome_iff_exists.mp z;refine no ?_;refine je (a9 rfl) ?_;refine aB (by rw[z];rfl) ?_;refine cM (a9 rfl) hv ?_;refine nn λno=>?_;obtain⟨n,h1,h2,_⟩:=P.kn _ _ hv;cases Int.ofNat_inj.mp h1;refine no ?_;refine(h2).symm▸?_;refine(e).symm▸?_;exact q s.kn P.kn (Nat.le_succ _)
 .refine je (a9 rfl) ?_;refine aJ (by rw[Bool.not_eq_true] at z;rw[z];rfl) ?_;refine gj ok ?_;obtain⟨as,ea⟩:∃as,r.dec=.tup as:=by cases r<;>first|exact⟨_,rfl⟩|exact(hn rfl).elim
  refine(ea).symm▸?_;refine dA (aa rfl) (qC P.len (by decide)) ?_;refine cM (a:=.tup as) (a9 rfl) (by rw[fO,if_pos rfl]) ?_;rw[ea] at q hn e;refine q (cH ai r.word (.tup as) s.kn) (e▸P.kn.put (e▸hn)) (gQ ..)
end
end
section
section
variable {fr:Fr} {L L':Hp} {d:Nat} {hd:Bool} {E:Hd->Fr->Hp->Prop} {n:Hd} {Q:V->Fr->Hp->Prop} {s:Ms} {es:List V} {F:Hp} {lg:V} {lo:O} {a b i t:Nat} {c o:Int}
theorem mV(P:Pc s t)(hw:bn (aw s.mem t 4)=0)(q:Tr illegalS E fr (am s lg lo F)):HK (d+4) false (.top 411) [.ref (.l 5)] fr (am s lg lo F) Q E:=by
 exists P hw q,zF fr,zN d,aK E,aK Q,zm s,zL F,zv lg,zo lo,zN t;refine kf rfl ?_;refine aB (and3 P.al') ?_;refine jR ?_;refine read P.hm P.ad ?_;refine k_ofB (aQ (P.hm▸P.hi)) ?_;refine(hw).symm▸?_;refine je (a9 rfl) ?_;refine aJ ?_ ?_
 .cases hv:b9 ai ((0:Nat):Int) s.kn with
  | none=>rfl
  | some v =>
   refine nn λno=>?_;obtain⟨n,h1,h2,h3⟩:=P.kn _ _ hv;cases Int.ofNat_inj.mp h1;refine no ?_;exact(h3 h2).elim
 .refine gj (r:=.bad) trivial ?_;refine f8 λn k=>?_;exact⟨_,_,_,rfl,.tail _ (.head _),q n k _⟩
structure RG (rg:List Nat):Prop where
 len:rg.length=32
 lt:∀x∈rg,x<4294967296
theorem RG.get{rg:List Nat}(h:RG rg)(hi:i<32):ah rg i<4294967296:=h.lt _ (List.mem_of_getElem? (dP (h.len▸hi)))
theorem m32_lt(v:Int):dy v<4294967296:=(Int.toNat_lt (Int.emod_nonneg _ (by decide))).mpr (Int.emod_lt_of_pos _ (by decide))
theorem RG.set{rg:List Nat}(h:RG rg)(v:Int):RG (rg.set i (dy v)):=⟨List.length_set.trans h.len,λx m=>(List.mem_or_eq_of_mem_set m).elim (h.lt x) λe=>e▸m32_lt v⟩
noncomputable abbrev cJ(rg:List Nat)(b:Nat)(o:Int):Nat:=dy ((ah rg b:Int)+o)
theorem al_f{u:Nat}{i:Int}(e:i=(u:Int))(h:u % 4=0):(!ai (i % 4) 0)=false:=by rw[e,bj (show(u:Int) % 4=0 from Int.ofNat_inj.mpr h)];rfl
theorem al_t{u:Nat}{i:Int}(e:i=(u:Int))(h:u % 4≠0):(!ai (i % 4) 0)=true:=by rw[e,bB λz:(u:Int) % 4=0=>h (Int.ofNat.inj z)];rfl
theorem access(hr:RG s.rg)(hb:b<32)(h:Ad (cJ s.rg b o:Nat) t 4)(al:cJ s.rg b o % 4=0)(q:Q (.int (cJ s.rg b o:Nat)) fr (am s lg lo F)):HK (d+2) false (.top 446) [.ref (.l 5),.int b,.int o,.int 4] fr (am s lg lo F) Q E:=by
 refine kf rfl ?_;refine b6 (a9 rfl) hr.len hb ?_;refine aB (al_f (bN _) al) ?_;refine place (m:=4) (t:=t) ⟨(bN _).trans h.e,h.h⟩ ?_;refine(show ∀{x:Int} (_:x=(cJ s.rg b o:Nat)),Q (.int x) fr (am s lg lo F) from λe=>e▸q) (bN _)
noncomputable def NA(u:Nat):Prop:=u % 4≠0\/u % 4=0/\(u<1024\/4096<u+4)
theorem qx(hr:RG s.rg)(hb:b<32)(h:NA (cJ s.rg b o))(q:∀w,Tr w E fr (am s lg lo F)):HK (d+5) false (.top 446) [.ref (.l 5),.int b,.int o,.int 4] fr (am s lg lo F) Q E:=by
 exists hr hb h q,zF fr,zN d,aK E,aK Q,zm s,zL F,zv lg,zo lo,zN b,zI o;refine kf rfl ?_;refine b6 (a9 rfl) hr.len hb ?_;rcases h with h|⟨h,h'⟩
 .refine aJ (al_t (bN _) h) ?_;refine f8 λn k=>?_;exact⟨_,_,_,rfl,.tail _ (.head _),q _ n k _⟩
 .refine aB (al_f (bN _) h) ?_;exact place_no (m:=4) (bN _) h' (q _)
inductive LG:List V->List (Nat×List UInt8)->Prop
 | nil:LG [] []
 | m {l ms u w}:LG l ms->LG (l++[mE u w]) (ms++[(u,w)])
 | o {l ms s r}:LG l ms->aF s [109]=false->LG (l++[.tup (.str s::r)]) ms
variable {ms:List (Nat×List UInt8)}
structure Lg (es:List V) (ms:List (Nat×List UInt8)) (k:Nat) (es':List V):Prop where
 lg:LG es' ms
 len:es'.length<=es.length+k
theorem Lg.ot{k:Nat}{es':List V}{x:List Nat}{r:List V}(h:Lg es ms k es')(z:aF x [109]=false):Lg es ms (k+1) (es'++[.tup (.str x::r)]):=⟨.o h.lg z,by rw[List.length_append];exact r7 h.len⟩
theorem Lg.mm{k u:Nat}{es':List V}{w:List UInt8}(h:Lg es ms k es'):Lg es (ms++[(u,w)]) (k+1) (es'++[mE u w]):=⟨.m h.lg,by rw[List.length_append];exact r7 h.len⟩
theorem Lg.up{k j:Nat}{es':List V}(h:Lg es ms k es')(l:k<=j):Lg es ms j es':=⟨h.lg,qC h.len (qN l _)⟩
theorem Lg.sz{k:Nat}{es':List V}(h:Lg es ms k es')(l:es.length<=999990)(hk:k<=10):es'.length<=1000000:=qC h.len (Nat.add_le_add l hk)
noncomputable def bL(rg:List Nat)(a:Nat)(v:Int):List Nat:=if a=0 then rg else rg.set a (dy v)
theorem RG.put{rg:List Nat}(h:RG rg){v:Int}:RG (bL rg a v):=by unfold bL;split<;>first|exact h|exact h.set v
theorem on{k:Nat}{es':List V}{v:Int}(G:Lg es ms k es')(l:es.length<=999990)(hk:k<=9)(hr:RG s.rg)(ha:a<32)(q:∀es'',Lg es ms (k+1) es''->Q .non fr (aA (s.sRg (bL s.rg a v)) es'' F)):
  HK (d+2) hd (.top 404) [.ref (.l 5),.int a,.int v] fr (aA s es' F) Q E:=by
 by_cases z:a=0
 .subst z;exact put0 (q es' (G.up (Nat.le_succ k)))
 .refine put_ (G.sz l (qC hk (by decide))) hr.len z ha ?_;have y:=q _ (G.ot (x:=rS) (r:=[.int a,.int (ah s.rg a)]) rfl);unfold bL at y
  rwa [if_neg z] at y
end
end
section
section
variable {fr:Fr} {L L':Hp} {d:Nat} {hd:Bool} {E:Hd->Fr->Hp->Prop} {n:Hd} {Q:V->Fr->Hp->Prop} {s:Ms} {es:List V} {F:Hp} {lg:V} {lo:O} {a b c i t:Nat} {o:Int} {ms:List (Nat×List UInt8)}
theorem Lg.start(G:LG es ms):Lg es ms 0 es:=⟨G,qW _⟩
theorem eZ(G:LG es ms)(l:es.length<=999990)(q:∀es',Lg es ms 1 es'->Q .non fr (aA s es' F)):HK (d+2) hd (.top 432) [.ref (.l 5)] fr (aA s es F) Q E :=
 begin_ (qC l (by decide)) (q _ ((Lg.start G).ot rfl))
theorem plainI(G:LG es ms)(l:es.length<=999990)(hr:RG s.rg)(ha:a<32)(hb:b<32)(q:∀es',Lg es ms 2 es'->Q .non fr (aA (s.sRg (bL s.rg a ((ah s.rg b:Int)+(dy o:Nat)))) es' F)):
  HK (d+4) false (.top 481) [.ref (.l 5),.str [97,100,100,105],.int a,.int b,.int o] fr (aA s es F) Q E:=by
 exists G l hr ha hb q,zF fr,zN d,aK E,aK Q,zm s,zL es,zL F,zN a,zN b,zI o,zL ms;refine kf rfl ?_;refine eZ G l λes' G'=>?_;refine j3 (j:=3) rfl rfl ?_;refine z_str (by decide) .non (.int _) ?_;refine b6 (a9 rfl) hr.len hb ?_;refine(show ∀{x:Int} (_:x=((dy o:Nat):Int)),HK _ _ (.top 341) [_,_,.int x] _ _ _ _ from λe=>e▸fX (k:=0) (by decide) (m32_lt o) ?_) (bN o);refine on G' l (by decide) hr ha λes'' G''=>?_;exact q es'' G''
theorem plainA{k:Nat}(hk:k<4)(G:LG es ms)(l:es.length<=999990)(hr:RG s.rg)(ha:a<32)(hb:b<32)(hc:c<32):∀(_:∀es',Lg es ms 2 es'->Q .non fr (aA (s.sRg (bL s.rg a (qw k (ah s.rg b) (ah s.rg c)))) es' F)),HK (d+4) false (.top 481) [.ref (.l 5),.str (nz k),.int a,.int b,.int c] fr (aA s es F) Q E:=by
 refine lt4 hk ?_ ?_ ?_ ?_<;>(
  intro q;refine kf rfl ?_;refine eZ G l λes' G'=>?_;refine j3 (j:=2) rfl rfl ?_;refine b6 (a9 rfl) hr.len hb ?_;refine b6 (a9 rfl) hr.len hc ?_;refine fX (by decide) (hr.get hc) ?_;refine on G' l (by decide) hr ha λes'' G''=>?_;exact q es'' G'')
theorem fA:∀n k,(f5 n k).length=n
 | 0,_=>rfl
 | n+1,k=>qF (·+1) (fA n (k / 256))
theorem store(hm:s.mem.length=3072)(G:LG es ms)(l:es.length<=999990)(hr:RG s.rg)(ha:a<32)(hb:b<32)(h:Ad (cJ s.rg b o:Nat) t 4)(al:cJ s.rg b o % 4=0)
  (q:∀es',Lg es (ms++[(t,aw s.mem t 4)]) 2 es'->Q .non fr (aA (s.sMem (ay s.mem t (f5 4 (ah s.rg a)))) es' F)) :
  HK (d+4) false (.top 453) [.ref (.l 5),.str (eA true),.int a,.int b,.int o] fr (aA s es F) Q E:=by
 exists hm G l hr ha hb h al q,zF fr,zN d,aK E,aK Q,zm s,zL es,zL F,zN a,zN b,zN t,zI o,zL ms;refine kf rfl ?_;refine j6 ?_;refine access hr hb h al ?_;refine eZ G l λes' G'=>?_;refine j3 (j:=0) (c:=115) rfl rfl ?_;refine b6 (a9 rfl) hr.len ha ?_;have e:Builtin.bitAnd (ah s.rg a:Nat) (1*2 ^ Int.toNat (8*4) - 1)=((ah s.rg a:Nat):Int):=(ee (ah s.rg a) 32).trans (qF Int.ofNat (Nat.mod_eq_of_lt (hr.get ha)));refine mJ ?_;refine k_toN e (hr.get ha) ?_;refine write (G'.sz l (by decide)) hm h ?_;exact q _ G'.mm
theorem jK:∀{b:List UInt8},bn b<256 ^ b.length
 | []=>Nat.one_pos
 | x::r=>by
  refine(?_:x.toNat+256*bn r<256 ^ (r.length+1));have h:=jK (b:=r);rw[Nat.pow_succ,Nat.mul_comm (256 ^ r.length)];exact qL (Nat.add_lt_add_right x.toNat_lt _) ((Nat.add_comm _ _).trans (Nat.mul_succ 256 (bn r)).symm▸qS 256 h)
theorem rput_sub(rg:List Nat)(a:Nat)(v:Int):bL rg a (v - 4294967296)=bL rg a v:=by
 unfold bL dy;rw[show(v - 4294967296) % 4294967296=v % 4294967296 from by lia]
theorem loadR(hm:s.mem.length=3072)(G:LG es ms)(l:es.length<=999990)(hr:RG s.rg)(ha:a<32)(hb:b<32)(h:Ad (cJ s.rg b o:Nat) t 4)(al:cJ s.rg b o % 4=0)
  (q:∀es',Lg es ms 2 es'->Q .non fr (aA (s.sRg (bL s.rg a (bn (aw s.mem t 4):Nat))) es' F)) :
  HK (d+4) false (.top 453) [.ref (.l 5),.str (eA false),.int a,.int b,.int o] fr (aA s es F) Q E:=by
 exists hm G l hr ha hb h al q,zF fr,zN d,aK E,aK Q,zm s,zL es,zL F,zN a,zN b,zN t,zI o,zL ms;refine kf rfl ?_;refine j6 ?_;refine access hr hb h al ?_;refine eZ G l λes' G'=>?_;refine j3 (j:=0) (c:=108) rfl rfl ?_;refine jR ?_;refine read hm h ?_;have l4:(aw s.mem t 4).length=4:=aQ (hm▸h.h);generalize aw s.mem t 4=w at l4 q ⊢;have hlt:bn w<4294967296:=by have:=jK (b:=w);rw[l4] at this;exact this
 refine k_ofB l4 ?_;refine j3 (j:=1) (c:=119) rfl rfl ?_;have e:((bn w:Nat):Int).fdiv (2 ^ Int.toNat (8*4 - 1))=((bn w / 2147483648:Nat):Int):=cZ _ _;by_cases z:bn w / 2147483648=1
 .refine aJ (bj (e.trans (qF Int.ofNat z))) ?_;refine on G' l (by decide) hr ha λes'' G''=>?_;exact(rput_sub s.rg a (bn w:Nat)).symm▸q es'' G''
 .refine aB (bB λh=>z (Int.ofNat.inj (e.symm.trans h))) ?_;refine on G' l (by decide) hr ha λes'' G''=>?_;exact q es'' G''
theorem oK{st:Bool}(hr:RG s.rg)(hb:b<32)(h:NA (cJ s.rg b o))(q:∀w,Tr w E fr (am s lg lo F)):HK (d+6) false (.top 453) [.ref (.l 5),.str (eA st),.int a,.int b,.int o] fr (am s lg lo F) Q E:=by
 refine kf rfl ?_;refine j6 ?_;exact qx hr hb h q
end
end
section
section
variable {fr:Fr} {L L':Hp} {d:Nat} {hd:Bool} {E:Hd->Fr->Hp->Prop} {n:Hd} {Q:V->Fr->Hp->Prop} {s:Ms} {es:List V} {F:Hp} {lg:V} {lo:O} {a b c i t:Nat} {o:Int} {ms:List (Nat×List UInt8)}
theorem withSign{x:Nat}(q:∀y,Q (.int y) fr L):HK (d+1) hd (.top 313) [.int x] fr L Q E:=by
 refine kf rfl ?_;cases z:!ai (Builtin.bitAnd (x:Int) 2147483648) 0 with
 | true=>exact aJ z (q _)
 | false=>exact aB z (q _)
noncomputable def ecallS:List Nat:=[101,99,97,108,108]
noncomputable def p6:List Nat:=[101,120,105,116]
noncomputable def Ms.sEnd(s:Ms)(st:Int):Ms:={s with dn:=true,st:=st}
theorem byte_ok(n:Nat):Builtin.bitAnd (n:Int) 255=(((n % 256).toUInt8.toNat:Nat):Int):=(ee n 8).trans (qF Int.ofNat (by rw[Nat.toUInt8,UInt8.toNat_ofNat'];exact(Nat.mod_eq_of_lt (Nat.mod_lt _ (by decide))).symm))
theorem askPut(hi:s.pc+4<4294967296)(G:LG es ms)(l:es.length<=999990)(ho:s.out.length<=999990)(hr:RG s.rg)(h7:ah s.rg 17=1)(q:∀es',Lg es ms 2 es'->Q (.str []) fr (aA ((s.sOut (s.out++[(ah s.rg 10 % 256).toUInt8])).sPc (s.pc+4)) es' F)):
  HK (d+3) false (.top 467) [.ref (.l 5)] fr (aA s es F) Q E:=by
 exists hi G l ho hr h7 q,zF fr,zN d,aK E,aK Q,zm s,zL es,zL F,zL ms;refine kf rfl ?_;refine b6 (a9 rfl) (i:=17) hr.len (by decide) ?_;refine(h7).symm▸?_;refine eZ G l λes' G'=>?_;refine f_lenB (a9 rfl) (qC ho (by decide)) ?_;refine note (G'.sz l (by decide)) ?_;refine mc_appB (a9 rfl) ?_;refine b6 (a9 rfl) (i:=10) hr.len (by decide) ?_;refine(show ∀{x:Int} (_:x=(((ah s.rg 10 % 256).toUInt8.toNat:Nat):Int)),pE _ _ _ [.int x] _ _ _ _ from λe=>e▸k_appB (aa rfl) (qC ho (by decide)) ?_) (byte_ok _);refine go (s:=s.sOut (s.out++[(ah s.rg 10 % 256).toUInt8])) (lg:=.ref (.l 11)) (lo:=.list (es'++[.tup [.str [111,117,116],.int s.out.length]])) (F:=F) (p:=s.pc+4) hi ?_;exact q _ (G'.ot rfl)
theorem askExit(G:LG es ms)(l:es.length<=999990)(hr:RG s.rg)(h7:ah s.rg 17=93)(q:∀es' st,Lg es ms 2 es'->Q (.str p6) fr (aA (s.sEnd st) es' F)):HK (d+3) false (.top 467) [.ref (.l 5)] fr (aA s es F) Q E:=by
 exists G l hr h7 q,zF fr,zN d,aK E,aK Q,zm s,zL es,zL F,zL ms;refine kf rfl ?_;refine b6 (a9 rfl) (i:=17) hr.len (by decide) ?_;refine(h7).symm▸?_;refine eZ G l λes' G'=>?_;refine note (G'.sz l (by decide)) ?_;refine b6 (a9 rfl) (i:=10) hr.len (by decide) ?_;refine withSign λx=>?_;exact q _ x (G'.ot rfl)
theorem askNo(hr:RG s.rg)(h7:ah s.rg 17≠93)(h8:ah s.rg 17≠1)(q:Tr ecallS E fr (am s lg lo F)):HK (d+4) false (.top 467) [.ref (.l 5)] fr (am s lg lo F) Q E:=by
 refine kf rfl ?_;refine b6 (a9 rfl) (i:=17) hr.len (by decide) ?_;refine aJ (neq λz=>h7 (Int.ofNat.inj z)) ?_;refine aJ (neq λz=>h8 (Int.ofNat.inj z)) ?_;refine f8 λn k=>?_;exact⟨_,_,_,rfl,.tail _ (.head _),q n k _⟩
structure Rdy (s:Ms) (t:Nat) (es:List V) (ms:List (Nat×List UInt8)) (r:Row):Prop where
 P:Pc s t
 rg:RG s.rg
 G:LG es ms
 l:es.length<=999990
 ho:s.out.length<=999990
 dn:s.dn=false
 ok:r.ok
 hw:bn (aw s.mem t 4)=r.word
noncomputable def Aft(s:Ms)(es:List V)(ms:List (Nat×List UInt8))(k:List V->List (Int×V)->Prop):Prop:=∀es' kn',Lg es ms 3 es'->KN kn'->kn'.length<=s.kn.length+1->k es' kn'
variable {r:Row}
theorem stepI(R:Rdy s t es ms (.addi a b o))(q:Aft s es ms λes' kn'=>Q (.str []) fr (aA (((s.sKn kn').sRg (bL s.rg a ((ah s.rg b:Int)+(dy o:Nat)))).sPc (s.pc+4)) es' F)):
  HK (d+5) false (.top 474) [.ref (.l 5)] fr (aA s es F) Q E:=by
 refine kf rfl ?_;refine aB R.dn ?_;refine fetched R.P R.ok nofun R.hw λkn' K hk=>?_;refine plainI R.G R.l R.rg R.ok.1 R.ok.2.1 λes' G'=>?_;refine go (p:=s.pc+4) R.P.pc4 ?_;exact q es' kn' (G'.up (by decide)) K hk
end
end
section
section
variable {fr:Fr} {L L':Hp} {d:Nat} {hd:Bool} {E:Hd->Fr->Hp->Prop} {n:Hd} {Q:V->Fr->Hp->Prop} {s:Ms} {es:List V} {F:Hp} {lg:V} {lo:O} {a b c i t u:Nat} {o:Int} {ms:List (Nat×List UInt8)} {r:Row}
theorem stepA{k:Nat}(hk:k<4):∀(_:Rdy s t es ms (.alu k a b c)) (_:Aft s es ms λes' kn'=>Q (.str []) fr (aA (((s.sKn kn').sRg (bL s.rg a (qw k (ah s.rg b) (ah s.rg c)))).sPc (s.pc+4)) es' F)),HK (d+5) false (.top 474) [.ref (.l 5)] fr (aA s es F) Q E:=by
 refine lt4 hk ?_ ?_ ?_ ?_<;>(
  intro R q;refine kf rfl ?_;refine aB R.dn ?_;refine fetched R.P R.ok nofun R.hw λkn' K hk=>?_;refine plainA R.ok.1 R.G R.l R.rg R.ok.2.1 R.ok.2.2.1 R.ok.2.2.2 λes' G'=>?_;refine go (p:=s.pc+4) R.P.pc4 ?_;exact q es' kn' (G'.up (by decide)) K hk)
theorem jI{st:Bool}(q:HK (d+1) false (.top 453) [.ref (.l 5),.str (eA st),.int a,.int b,.int o] ⟨[(8,.ref (.l 5)),(89,.str (eA st)),(90,.int a),(91,.int b),(92,.int o)],[]⟩ (am s lg lo F) (λ_ _ L=>Q .non fr L) λn _ L=>E n fr L):
  HK (d+2) false (.top 481) [.ref (.l 5),.str (eA st),.int a,.int b,.int o] fr (am s lg lo F) Q E:=by
 refine kf rfl ?_;cases st<;>exact q
theorem stepS(R:Rdy s t es ms (.mem true a b o))(h:Ad (cJ s.rg b o:Nat) u 4)(al:cJ s.rg b o % 4=0)
  (q:Aft s es (ms++[(u,aw s.mem u 4)]) λes' kn'=>Q (.str []) fr (aA (((s.sKn kn').sMem (ay s.mem u (f5 4 (ah s.rg a)))).sPc (s.pc+4)) es' F)) :
  HK (d+6) false (.top 474) [.ref (.l 5)] fr (aA s es F) Q E:=by
 refine kf rfl ?_;refine aB R.dn ?_;refine fetched R.P R.ok nofun R.hw λkn' K hk=>?_;refine jI (st:=true) (store (s:=s.sKn kn') R.P.hm R.G R.l R.rg R.ok.1 R.ok.2.1 h al λes' G'=>?_);refine go (p:=s.pc+4) R.P.pc4 ?_;exact q es' kn' (G'.up (by decide)) K hk
theorem stepL(R:Rdy s t es ms (.mem false a b o))(h:Ad (cJ s.rg b o:Nat) u 4)(al:cJ s.rg b o % 4=0)
  (q:Aft s es ms λes' kn'=>Q (.str []) fr (aA (((s.sKn kn').sRg (bL s.rg a (bn (aw s.mem u 4):Nat))).sPc (s.pc+4)) es' F)) :
  HK (d+6) false (.top 474) [.ref (.l 5)] fr (aA s es F) Q E:=by
 refine kf rfl ?_;refine aB R.dn ?_;refine fetched R.P R.ok nofun R.hw λkn' K hk=>?_;refine jI (st:=false) (loadR (s:=s.sKn kn') R.P.hm R.G R.l R.rg R.ok.1 R.ok.2.1 h al λes' G'=>?_);refine go (p:=s.pc+4) R.P.pc4 ?_;exact q es' kn' (G'.up (by decide)) K hk
theorem stepJ(R:Rdy s t es ms .ret)(hx:ah s.rg 1=1024)(q:Aft s es ms λes' kn'=>Q (.str []) fr (aA ((s.sKn kn').sPc 1024) es' F)):HK (d+5) false (.top 474) [.ref (.l 5)] fr (aA s es F) Q E:=by
 exists R hx q,zF fr,zN d,aK E,aK Q,zm s,zL es,zL F,zN t,zL ms;refine kf rfl ?_;refine aB R.dn ?_;refine fetched R.P R.ok nofun R.hw λkn' K hk=>?_;refine kf rfl ?_;refine b6 (a9 rfl) (i:=1) R.rg.len (by decide) ?_;have hx:ah (s.sKn kn').rg 1=1024:=hx;refine(hx).symm▸?_;refine goal (p:=1024) rfl (by decide) ?_;refine eZ (s:=s.sKn kn') R.G R.l λes' G'=>?_;refine put0 ?_;refine go (p:=1024) (by decide) ?_;exact q es' kn' (G'.up (by decide)) K hk
theorem stepP(R:Rdy s t es ms .ecall)(h7:ah s.rg 17=1)(q:Aft s es ms λes' kn'=>Q (.str []) fr (aA (((s.sKn kn').sOut (s.out++[(ah s.rg 10 % 256).toUInt8])).sPc (s.pc+4)) es' F)):
  HK (d+5) false (.top 474) [.ref (.l 5)] fr (aA s es F) Q E:=by
 refine kf rfl ?_;refine aB R.dn ?_;refine fetched R.P R.ok nofun R.hw λkn' K hk=>?_;refine askPut (s:=s.sKn kn') R.P.pc4 R.G R.l R.ho R.rg h7 λes' G'=>?_;exact q es' kn' (G'.up (by decide)) K hk
theorem stepX(R:Rdy s t es ms .ecall)(h7:ah s.rg 17=93)(q:∀st,Aft s es ms λes' kn'=>Q (.str p6) fr (aA ((s.sKn kn').sEnd st) es' F)):
  HK (d+5) false (.top 474) [.ref (.l 5)] fr (aA s es F) Q E:=by
 refine kf rfl ?_;refine aB R.dn ?_;refine fetched R.P R.ok nofun R.hw λkn' K hk=>?_;refine askExit (s:=s.sKn kn') R.G R.l R.rg h7 λes' st G'=>?_;exact q st es' kn' (G'.up (by decide)) K hk
def Traps(rg:List Nat):Row->Prop
 | .bad=>True
 | .ecall=>ah rg 17≠93/\ah rg 17≠1
 | .mem _ _ b o=>NA (cJ rg b o)
 | _=>False
theorem stepT(R:Rdy s t es ms r)(t:Traps s.rg r)(q:∀w,Aft s es ms λes' kn'=>Tr w E fr (aA (s.sKn kn') es' F)):HK (d+10) false (.top 474) [.ref (.l 5)] fr (aA s es F) Q E:=by
 have fin:∀{kn'},KN kn'->kn'.length<=s.kn.length+1->∀w,Tr w E fr (aA (s.sKn kn') es F):=λK hk w=>q w es _ ((Lg.start R.G).up (by decide)) K hk;refine kf rfl ?_;refine aB R.dn ?_;cases r with
 | bad=>exact mV R.P R.hw (fin R.P.kn (Nat.le_succ _) _)
 | ecall =>
  refine fetched R.P R.ok nofun R.hw λkn' K hk=>?_;exact askNo (s:=s.sKn kn') R.rg t.1 t.2 (fin K hk _)
 | mem st a b o =>
  cases st<;>(
   refine fetched R.P R.ok nofun R.hw λkn' K hk=>?_
   first
   | exact jI (st:=true) (oK (s:=s.sKn kn') R.rg R.ok.2.1 t λw=>fin K hk w)
   | exact jI (st:=false) (oK (s:=s.sKn kn') R.rg R.ok.2.1 t λw=>fin K hk w))
 | _=>exact t.elim
end
end
section
section
variable {fr:Fr} {L L':Hp} {d:Nat} {hd:Bool} {E:Hd->Fr->Hp->Prop} {n:Hd} {Q:V->Fr->Hp->Prop} {s:Ms} {es:List V} {F:Hp} {lg:V} {lo:O} {a b c i t:Nat} {o:Int} {ms:List (Nat×List UInt8)} {r:Row}
noncomputable def kh(u:Nat):Bool:=Nat.beq (u % 4) 0&&(Nat.ble 1024 u&&Nat.ble (u+4) 4096)
theorem gb{u:Nat}(h:kh u=true):Ad u (u - 1024) 4:=by
 have h1:=r9 (ae (a8 h));exact⟨qF Int.ofNat (Nat.add_sub_cancel' h1).symm,by rw[<-Nat.sub_add_comm h1];exact Nat.sub_le_of_le_add (r9 (a8 (a8 h)))⟩
theorem jJ{u:Nat}(h:kh u=true):u % 4=0:=qH (ae h)
theorem okA_f{u:Nat}(h:kh u=false):NA u:=by
 by_cases z:u % 4=0
 .refine .inr ⟨z,?_⟩;by_cases y:u<1024
  .exact .inl y
  .refine .inr (Nat.lt_of_not_le λx=>?_);unfold kh at h;rw[z,Nat.ble_eq_true_of_le (Nat.not_lt.mp y),Nat.ble_eq_true_of_le x] at h;cases h
 .exact .inl z
noncomputable abbrev gm:=List (Nat×List UInt8×List UInt8)
inductive Rs where
 | stop|back|next (rg:List Nat) (mem out:List UInt8) (s:gm)
noncomputable def Row.go(rg:List Nat)(mem out:List UInt8):Row->Rs
 | .addi a b o=>.next (bL rg a ((ah rg b:Int)+(dy o:Nat))) mem out []
 | .alu k a b c=>.next (bL rg a (qw k (ah rg b) (ah rg c))) mem out []
 | .mem true a b o=>(match kh (cJ rg b o) with
  | true=>.next rg (ay mem (cJ rg b o - 1024) (f5 4 (ah rg a))) out [(cJ rg b o - 1024,aw mem (cJ rg b o - 1024) 4,f5 4 (ah rg a))]
  | false=>.stop)
 | .mem false a b o=>(match kh (cJ rg b o) with
  | true=>.next (bL rg a (bn (aw mem (cJ rg b o - 1024) 4):Nat)) mem out []
  | false=>.stop)
 | .ecall=>(match Nat.beq (ah rg 17) 1 with
  | true=>.next rg mem (out++[(ah rg 10 % 256).toUInt8]) []
  | false=>.stop)
 | .bad=>.stop
 | .ret=>.back
noncomputable def fp(s:gm):List (Nat×List UInt8):=s.map λp=>(p.1,p.2.1)
noncomputable def Ms.next(s:Ms)(rg:List Nat)(mem out:List UInt8)(kn:List (Int×V)):Ms:={s with rg:=rg,mem:=mem,out:=out,kn:=kn,pc:=s.pc+4}
noncomputable def Stp(Q:V->Fr->Hp->Prop)(E:Hd->Fr->Hp->Prop)(fr:Fr)(s:Ms)(es:List V)(F:Hp)(ms:List (Nat×List UInt8)):Rs->Prop
 | .stop=>(∀w,Aft s es ms λes' kn'=>Tr w E fr (aA (s.sKn kn') es' F))/\∀st,Aft s es ms λes' kn'=>Q (.str p6) fr (aA ((s.sKn kn').sEnd st) es' F)
 | .back=>Aft s es ms λes' kn'=>Q (.str []) fr (aA ((s.sKn kn').sPc 1024) es' F)
 | .next rg mem out t=>Aft s es (ms++fp t) λes' kn'=>Q (.str []) fr (aA (s.next rg mem out kn') es' F)
theorem mstep(R:Rdy s t es ms r)(hx:ah s.rg 1=1024)(q:Stp Q E fr s es F ms (r.go s.rg s.mem s.out)):HK (d+10) false (.top 474) [.ref (.l 5)] fr (aA s es F) Q E:=by
 exists R hx q,zF fr,zN d,aK E,aK Q,zm s,zL es,zL F,zN t,zL ms,zr r;cases r with
 | addi a b o=>exact stepI R (List.append_nil ms▸q)
 | alu k a b c=>exact stepA R.ok.1 R (List.append_nil ms▸q)
 | bad=>exact stepT R trivial q.1
 | ret=>exact stepJ R hx q
 | ecall =>
  dsimp only [Row.go] at q;cases z:Nat.beq (ah s.rg 17) 1 with
  | true =>
   have q:=(z)▸q;exact stepP R (qH z) (List.append_nil ms▸q)
  | false =>
   have q:=(z)▸q;by_cases y:ah s.rg 17=93
   .exact stepX R y q.2
   .exact stepT R ⟨y,λh=>by rw[h] at z;cases z⟩ q.1
 | mem st a b o =>
  cases st<;>(
   dsimp only [Row.go] at q;cases e:kh (cJ s.rg b o) with
   | false =>
    have q:=(e)▸q;exact stepT R (okA_f e) q.1
   | true =>
    have q:=(e)▸q
    first
    | exact stepS R (gb e) (jJ e) q
    | exact stepL R (gb e) (jJ e) (List.append_nil ms▸q))
end
end
section
section
variable {mem w v:List UInt8} {t u n:Nat}
theorem j7(h:t<=mem.length):(ay mem t w).take t=mem.take t:=by
 have e:(mem.take t).length=t:=by rw[List.length_take];exact Nat.min_eq_left h
 exact(List.take_append_of_le_length (qU e.symm)).trans (List.take_of_length_le (qU e))
theorem jk(h:t<=mem.length):(ay mem t w).drop t=w++mem.drop (t+w.length):=List.drop_left' (by rw[List.length_take];exact Nat.min_eq_left h)
theorem cq(h:t<=mem.length)(e:v.length=w.length):ay (ay mem t w) t v=ay mem t v:=by
 unfold ay at *;refine(?_:(ay mem t w).take t++(v++(ay mem t w).drop (t+v.length))=_);rw[j7 h,<-List.drop_drop,jk h,e,List.drop_left]
theorem cS(h:t+n<=mem.length):ay mem t (aw mem t n)=mem:=by
 show mem.take t++(aw mem t n++mem.drop (t+(aw mem t n).length))=mem;rw[aQ h,<-List.drop_drop,List.take_append_drop,List.take_append_drop]
theorem cy(h:t<=mem.length)(f:u+n<=t):aw (ay mem t w) u n=aw mem u n:=by
 show((ay mem t w).drop u).take n=(mem.drop u).take n;have e:∀l:List UInt8,(l.drop u).take n=((l.take t).take (u+n)).drop u:=λl=>by rw[List.take_take,Nat.min_eq_left f,List.drop_take,Nat.add_sub_cancel_left]
 rw[e,e mem,j7 h]
theorem bV(h:t<=mem.length)(f:t+w.length<=u):aw (ay mem t w) u n=aw mem u n:=by
 obtain⟨k,rfl⟩:=Nat.exists_eq_add_of_le f;refine(?_:((ay mem t w).drop (t+w.length+k)).take n=(mem.drop (t+w.length+k)).take n);rw[<-List.drop_drop,<-List.drop_drop,jk h,List.drop_left,List.drop_drop]
theorem jg(h:t<=mem.length)(f:w.length<=t):ay (ay mem t v) 0 w=ay (ay mem 0 w) t v:=by
 obtain⟨k,rfl⟩:=Nat.exists_eq_add_of_le f;refine(?_:w++(ay mem (w.length+k) v).drop (0+w.length)=(w++mem.drop (0+w.length)).take (w.length+k)++(v++(w++mem.drop (0+w.length)).drop (w.length+k+v.length)));rw[Nat.zero_add,List.take_append,List.take_of_length_le (qI _ _),Nat.add_sub_cancel_left,List.append_assoc,Nat.add_assoc,<-List.drop_drop,List.drop_left,List.drop_drop]
 congr 1
 have e:(mem.take (w.length+k)).length=w.length+k:=by rw[List.length_take];exact Nat.min_eq_left h
 refine(?_:(mem.take (w.length+k)++_).drop w.length=_);rw[List.drop_append_of_le_length (qC (qI _ k) (qU e.symm)),List.drop_take,Nat.add_sub_cancel_left,<-Nat.add_assoc]
end
end
section
theorem aI{σ:Type}{hp:σ->Hp}{turn:V->σ->(σ->Prop)->Prop}{done:σ->Prop}{n:Hd}{i:Nat}{s:σ}{us:List V}{a:V}(m:nU (hp s) (.ref n) us)(h:us[i]?=some a)(q:turn a s λs=>Lp hp turn done (.lst n (i+1)) s):Lp hp turn done (.lst n i) s:=.cons m h q λ_ h=>h
theorem lp_r{σ:Type}{hp:σ->Hp}{turn:V->σ->(σ->Prop)->Prop}{done:σ->Prop}{lo:Int}{j:Nat}{s:σ}(q:turn (.int lo) s λs=>Lp hp turn done (.rng (lo+1) j) s):Lp hp turn done (.rng lo (j+1)) s:=.rcons q λ_ h=>h
noncomputable def au(wd:List Nat)(di:Nat)(es:List (Int×V))(o:O)(F:Hp):Hp :=
 (.l 12,.inst 642 (.l 13))::(.l 13,.ns [(39,.ref (.l 21)),(150,.ref (.l di)),(9,.str wd),(17,.ref (.l 5))])::(.l 14,.dict es)::(.l 15,o)::F
noncomputable def EB:List UInt8:=[115,0,16,0]
structure Sp (t:Nat):Prop where
 lo:4<=t
 hi:t<=36
 al:t % 4=0
noncomputable def lay(o:Option Nat)(mem:List UInt8):List UInt8:=match o with
 | none=>ay mem 0 EB
 | some t=>ay (ay mem t EB) 0 EB
noncomputable def hZ(o:Option Nat):List V:=match o with
 | none=>[.int 1024]
 | some t=>[.int ((1024+t:Nat):Int),.int 1024]
noncomputable def ins(o:Option Nat)(mem:List UInt8):List (Int×V):=match o with
 | none=>[(1024,.bytes (aw mem 0 4))]
 | some t=>[(((1024+t:Nat):Int),.bytes (aw mem t 4)),(1024,.bytes (aw mem 0 4))]
noncomputable def j2(o:Option Nat):Prop:=∀t,o=some t->Sp t
theorem Sp.ad{t:Nat}(h:Sp t):Ad ((1024+t:Nat):Int) t 4:=.nat (qC (qQ h.hi 4) (by decide))
theorem Sp.ali{t:Nat}(h:Sp t):ai (((1024+t:Nat):Int) % 4) 0=true:=bj (Int.ofNat_inj.mpr ((Nat.mul_add_mod 4 256 t).trans h.al))
theorem Sp.h{t:Nat}(h:Sp t):t+4<=3072:=qC (qQ h.hi 4) (by decide)
theorem Sp.ne{t:Nat}(h:Sp t):¬(((1024+t:Nat):Int)=1024):=λz=>absurd (qC h.lo (qU (Nat.add_left_cancel (n:=1024) (k:=0) (Int.ofNat.inj z)))) (by decide)
theorem Sp.insE{t:Nat}{mem:List UInt8}(h:Sp t)(hm:mem.length=3072):cH ai 1024 (.bytes (aw (ay mem t EB) 0 4)) (cH ai ((1024+t:Nat):Int) (.bytes (aw mem t 4)) [])=ins (some t) mem:=by
 rw[cy (hm▸qC (qI _ _) h.h) h.lo];show(match ai ((1024+t:Nat):Int) 1024 with|true=>_|false=>_)=_;rw[bB h.ne];rfl
theorem Ad.w{i:Int}{t:Nat}{w:List UInt8}(h:Ad i t 4)(e:w.length=4):Ad i t w.length:=e▸h
theorem ln{mem:List UInt8}(t:Nat):b9 ai ((1024+t:Nat):Int) (ins (some t) mem)=some (.bytes (aw mem t 4)):=by
 show(match ai ((1024+t:Nat):Int) ((1024+t:Nat):Int) with|true=>_|false=>_)=_;rw[bj rfl]
theorem Sp.find0{mem:List UInt8}{t:Nat}(h:Sp t):b9 ai 1024 (ins (some t) mem)=some (.bytes (aw mem 0 4)):=by
 show(match ai ((1024+t:Nat):Int) 1024 with|true=>_|false=>_)=_;rw[bB h.ne];rfl
theorem Sp.un{t:Nat}{mem:List UInt8}(h:Sp t)(hm:mem.length=3072):ay (ay (lay (some t) mem) 0 (aw mem 0 4)) t (aw mem t 4)=mem:=by
 have ht:t<=mem.length:=hm▸qC (qI _ _) h.h;have l4:∀t,t+4<=3072->(aw mem t 4).length=4:=λt h=>aQ (hm▸h);unfold lay;rw[cq (r0 _) (l4 0 (by decide)),<-cy (w:=EB) (n:=4) (u:=0) ht h.lo,cS (by rw[b8 (w:=EB) (hm▸h.h),hm];decide),cq ht (l4 t h.h),cS (hm▸h.h)]
theorem aR{mem:List UInt8}{t:Nat}(hm:mem.length=3072)(h:t+4<=3072):(ay mem t EB).length=3072:=(b8 (w:=EB) (hm▸h)).trans hm
section
variable {fr:Fr} {L L':Hp} {d:Nat} {hd:Bool} {E:Hd->Fr->Hp->Prop} {n:Hd} {Q:V->Fr->Hp->Prop} {s:Ms} {es:List (Int×V)} {F:Hp} {lg:V} {lo ho:O} {wd:List Nat} {u t:Nat} {o:Option Nat} {di:Nat}
theorem av{p:Hd×O}(h:p∈F):p∈am s lg lo F:=.tail _ (.tail _ (.tail _ (.tail _ (.tail _ (.tail _ (.tail _ h))))))
theorem ao{p:Hd×O}(h:p∈F):p∈au wd di es ho F:=.tail _ (.tail _ (.tail _ (.tail _ h)))
theorem ad0:Ad 1024 0 4:=⟨rfl,by decide⟩
theorem taken(hm:s.mem.length=3072){i:Int}(h:Ad i t 4)(q:Q (.bytes (aw s.mem t 4)) fr (am s lg lo (au wd di es ho F))):HK (d+3) false (.top 576) [.ref (.l 12),.int i,.int 4] fr (am s lg lo (au wd di es ho F)) Q E:=by
 refine kf rfl ?_;refine read hm h ?_;exact q
theorem insert_(ok:j2 o)(hm:s.mem.length=3072)(m:(n,O.list (hZ o))∈F)(q:Q .non fr (am (s.sMem (lay o s.mem)) lg lo (au wd 14 (ins o s.mem) ho F))):HK (d+4) false (.top 562) [.ref (.l 12),.ref n] fr (am s lg lo (au wd 14 [] ho F)) Q E:=by
 exists ok hm m q,zF fr,zN d,aK E,zh n,aK Q,zm s,zL F,zv lg,zo lo,zo ho,zL wd,zO o;have mm:∀{s:Ms} {es:List (Int×V)},(n,O.list (hZ o))∈am s lg lo (au wd 14 es ho F):=av (ao m);refine kf rfl ?_;cases o with
 | none =>
  refine aI mm rfl ?_;refine je (a9 rfl) ?_;refine taken hm ad0 ?_;refine dA (aa rfl) (r0 _) ?_;refine load (w:=EB) hm ad0 ?_;refine .nil mm rfl ?_;exact q
 | some t =>
  have h:=ok t rfl;refine aI mm rfl ?_;refine je (a9 rfl) ?_;refine aJ rfl ?_;refine aJ h.ali ?_;refine taken hm h.ad ?_;refine dA (aa rfl) (r0 _) ?_;refine load (w:=EB) hm h.ad ?_;refine aI mm rfl ?_;refine je (a9 rfl) ?_;refine aJ (by rw[fO,if_neg h.ne];rfl) ?_;refine taken (s:=s.sMem (ay s.mem t EB)) (aR hm h.h) ad0 ?_;refine dA (aa rfl) (qC (gQ ..) (by decide)) ?_;refine load (s:=s.sMem (ay s.mem t EB)) (w:=EB) (aR hm h.h) ad0 ?_;refine .nil mm rfl ?_;exact(show Q .non fr (am (s.sMem (lay (some t) s.mem)) lg lo (au wd 14 (cH ai 1024 (.bytes (aw (ay s.mem t EB) 0 4)) (cH ai ((1024+t:Nat):Int) (.bytes (aw s.mem t 4)) [])) ho F)) from h.insE hm▸q)
noncomputable def srt(o:Option Nat):List Int:=match o with
 | none=>[1024]
 | some t=>[1024,((1024+t:Nat):Int)]
theorem srt_ok(ok:j2 o)(mem:List UInt8):(srt o).Perm ((ins o mem).map (·.1))/\(srt o).Pairwise (·<=·)/\(ins o mem).length<64:=by
 cases o with
 | none=>exact⟨.refl _,List.pairwise_singleton _ _,show 1<64 by decide⟩
 | some t=>exact⟨.swap ..,List.pairwise_pair.mpr (Int.ofNat_le.mpr (qI 1024 t)),show 2<64 by decide⟩
theorem f_srt{mem:List UInt8}(ok:j2 o)(m:(n,O.dict (ins o mem))∈L){Q:V->Fr->Hp->Prop}(q:Al (.list ((srt o).map V.int)) L λm L=>Q (.ref m) fr L):HK d false (.bi 3) [.ref n] fr L Q E:=have k:=srt_ok ok mem;f_sort m k.1 k.2.1 k.2.2 q
theorem remove_(ok:j2 o)(hm:s.mem.length=3072)(q:Q .non fr (am s lg lo (au wd 15 (ins o s.mem) (.dict []) F))):HK (d+4) false (.top 569) [.ref (.l 12)] fr (am (s.sMem (lay o s.mem)) lg lo (au wd 14 (ins o s.mem) .hole F)) Q E:=by
 exists ok hm q,zF fr,zN d,aK E,aK Q,zm s,zL F,zv lg,zo lo,zL wd,zO o;refine .dw (kf rfl ?_);refine f_srt ok (a9 rfl) (.sym (am (s.sMem (lay o s.mem)) lg lo (au wd 14 (ins o s.mem) .hole [])) F rfl λn=>?_);have l4:∀t,t+4<=3072->(aw s.mem t 4).length=4:=λt h=>aQ (hm▸h);have fin:∀{m':List UInt8} {p:Hd×O},m'=s.mem->Dw Q .non fr (am (s.sMem m') lg lo (au wd 15 (ins o s.mem) (.dict []) (p::F))):=λe=>by
  rw[e];exact⟨_,List.Sublist.append_left (.cons _ (.refl F)) (am s lg lo (au wd 15 (ins o s.mem) (.dict []) [])),q⟩
 cases o with
 | none =>
  refine aI (av (ao (.head _))) rfl ?_;refine cM (a:=.bytes (aw s.mem 0 4)) (a9 rfl) rfl ?_;refine load (s:=s.sMem (lay none s.mem)) (w:=aw s.mem 0 4) (aR hm (by decide)) (ad0.w (l4 0 (by decide))) ?_;refine .nil (av (ao (.head _))) rfl ?_;refine .fix 15 (aa rfl) ?_;exact fin ((cq (r0 _) (l4 0 (by decide))).trans (cS (hm▸by decide)))
 | some t =>
  have h:=ok t rfl;have e1:=aR hm h.h;have e0:(lay (some t) s.mem).length=3072:=aR e1 (t:=0) (by decide);refine aI (av (ao (.head _))) rfl ?_;refine cM (a:=.bytes (aw s.mem 0 4)) (a9 rfl) h.find0 ?_;refine load (s:=s.sMem (lay (some t) s.mem)) (w:=aw s.mem 0 4) e0 (ad0.w (l4 0 (by decide))) ?_;refine aI (av (ao (.head _))) rfl ?_;refine cM (a:=.bytes (aw s.mem t 4)) (a9 rfl) (ln t) ?_;refine load (s:=s.sMem (ay (lay (some t) s.mem) 0 (aw s.mem 0 4))) (w:=aw s.mem t 4) ((b8 (by rw[l4 0 (by decide),e0];decide)).trans e0) (h.ad.w (l4 t h.h)) ?_;refine .nil (av (ao (.head _))) rfl ?_;refine .fix 15 (aa rfl) ?_;exact fin (h.un hm)
end
end
section
section
variable {σ:Type} {hp:σ->Hp} {turn:V->σ->(σ->Prop)->Prop} {done:σ->Prop} {s:σ} {x:Int} {k j:Nat}
theorem lp_0{lo hi:Int}(h:hi<=lo)(q:done s):Lp hp turn done (.rng lo (hi - lo).toNat) s:=by
 rw[Int.toNat_of_nonpos (Int.sub_nonpos_of_le h)];exact .rnil q
theorem lp_k(q:turn (.int (x+k)) s λs=>Lp hp turn done (.rng (x+(k+1:Nat)) j) s):Lp hp turn done (.rng (x+k) (j+1)) s :=
 .rcons q λ_ h=>(Int.add_assoc x k 1).symm▸h
theorem idx_k{n:Nat}(h:k<n)(hn:n<=1000000):iX (x+k - x) n=some k:=by rw[Int.add_comm,Int.add_sub_cancel];exact fG h hn
theorem ff{a b:Nat}(ha:a<100000)(hb:b<100000):oh (a:Int) (b:Int)=true:=by
 unfold oh;refine(show decide ((a:Int).natAbs<2 ^ 61)=true from decide_eq_true (Nat.lt_trans ha (by decide))).symm▸?_;exact decide_eq_true (Nat.lt_trans hb (by decide))
theorem byteOf_u(c:UInt8):cg c.toNat=some c:=iH c
theorem lp_t{hp:St->Hp}{done:St->Prop}{m:V->Ab Fl}{I:Nat->St->Prop}{Q:Fl->Kn}{E:Hd->Kn}{n:Nat}(h:∀k s Q E (K:St->Prop),k<n->I k s->(∀s',I (k+1) s'->K s')->aU m Q E (.int (x+k)) s K)(q:∀s,I n s->done s):
  ∀(j k:Nat) (s:St),k+j=n->I k s->Lp hp (aU m Q E) done (.rng (x+k) j) s
 | 0,k,s,e,i=>.rnil (q s (e▸i))
 | j+1,k,s,e,i=>lp_k (h k s Q E _ (e▸Nat.lt_add_of_pos_right (Nat.zero_lt_succ j)) i λs' i'=>lp_t h q j (k+1) s' (e▸Nat.add_right_comm k 1 j) i')
theorem lp_4{hp:St->Hp}{done:St->Prop}{m:V->Ab Fl}{I:Nat->St->Prop}{Q:Fl->Kn}{E:Hd->Kn}{s:St}(i:I 0 s)(h:∀k s Q E (K:St->Prop),k<4->I k s->(∀s',I (k+1) s'->K s')->aU m Q E (.int (x+k)) s K)(q:∀s,I 4 s->done s):Lp hp (aU m Q E) done (.rng x (x+4 - x).toNat) s:=by
 rw[Int.add_comm x 4,Int.add_sub_cancel];exact(Int.add_zero x)▸lp_t h q 4 0 s rfl i
theorem fu{a b:Nat}:max (a:Int) b=((max a b:Nat):Int):=(Nat.le_total a b).elim (λh=>by rw[Nat.max_eq_right h,Int.max_eq_right (Int.ofNat_le.mpr h)]) λh=>by rw[Nat.max_eq_left h,Int.max_eq_left (Int.ofNat_le.mpr h)]
theorem min_nat{a b:Nat}:min (a:Int) b=((min a b:Nat):Int):=(Nat.le_total a b).elim (λh=>by rw[Nat.min_eq_left h,Int.min_eq_left (Int.ofNat_le.mpr h)]) λh=>by rw[Nat.min_eq_right h,Int.min_eq_right (Int.ofNat_le.mpr h)]
theorem j9{β:Type}{n:Nat}{l m:List β}(h:l.length=n)(h':m.length=n)(e:l.take n=m.take n):l=m:=by rw[List.take_of_length_le (qU h),List.take_of_length_le (qU h')] at e;exact e
theorem kx{β:Type}{l m:List β}{k:Nat}{c:β}(h:k<l.length)(e:l.take k=m.take k)(g:m[k]?=some c):(l.set k c).take (k+1)=m.take (k+1):=by
 rw[List.take_succ,List.take_succ,List.take_set_of_le (qW k),e,List.getElem?_set_self h,g]
theorem al_gap{t u:Nat}(h:t+4<=u\/u+4<=t):min t u+4<=max t u:=h.elim (λh=>qC (qQ (Nat.min_le_left t u) 4) (qC h (Nat.le_max_right t u))) λh=>qC (qQ (Nat.min_le_right t u) 4) (qC h (Nat.le_max_left t u))
end
section
variable {fr:Fr} {L L':Hp} {d:Nat} {hd:Bool} {E:Hd->Fr->Hp->Prop} {n:Hd} {Q:V->Fr->Hp->Prop} {s:Ms} {es:List (Int×V)} {F:Hp} {lg:V} {lo ho:O} {wd:List Nat} {u t:Nat} {o:Option Nat} {di:Nat} {i j k:Int}
theorem mX(e:max i j=k)(q:Q (.int k) fr L):HK d false (.bi 1) [.int i,.int j] fr L Q E:=f_max2 (e▸q)
theorem mW(e:min i j=k)(q:Q (.int k) fr L):HK d false (.bi 2) [.int i,.int j] fr L Q E:=f_min2 (e▸q)
theorem iO(h:t % 4=0)(h':u % 4=0)(ne:t≠u):t+4<=u\/u+4<=t:=by omega
theorem gR{mem:List UInt8}(ok:j2 o)(hm:mem.length=3072)(h4:4<=u)(ne:o≠some u)(al:u % 4=0):aw (lay o mem) u 4=aw mem u 4:=by
 cases o with
 | none=>exact bV (r0 _) h4
 | some t =>
  have h:=ok t rfl;have ht:t<=mem.length:=hm▸qC (qI _ _) h.h;exact(bV (w:=EB) (r0 _) h4).trans ((iO h.al al λz=>ne (z▸rfl)).elim (λg=>bV ht g) λg=>cy ht g)
theorem oP{mem:List UInt8}(ok:j2 o)(hm:mem.length=3072):(lay o mem).length=3072:=by
 cases o with
 | none=>exact aR hm (t:=0) (by decide)
 | some t=>exact aR (aR hm (ok t rfl).h) (t:=0) (by decide)
theorem srt_0:((srt o).map V.int)[0]?=some (.int 1024):=by cases o<;>rfl
structure RdI (n1 n2:Nat) (H:Hp) (u t:Nat) (us:List V) (m:List UInt8) (k:Nat) (s:St):Prop where
 ex:∃l:List UInt8,l.length=4/\l.take k=m.take k/\s.2=(.s n2,.list us)::(.s n1,.barr l)::H
 tl:∃r,s.1=⟨(8,.ref (.l 12))::(43,.int ((1024+u:Nat):Int))::(118,.int 4)::(113,.ref (.s n1))::r,[]⟩
 fr:∀v,s.1.set 11 v=⟨[(8,.ref (.l 12)),(43,.int ((1024+u:Nat):Int)),(118,.int 4),(113,.ref (.s n1)),(124,.int ((1024+t:Nat):Int)),(11,v)],[]⟩
noncomputable def b583:X:=Zx.K (Zx.A ((Zx.l 113 431677).sub (Zx.B Op.sub (Zx.l 11 183877) (Zx.l 43 607377) 1023877) (Zx.P 1607677)) (((Zx.a (Zx.l 8 363077) 150 1119077).sub (Zx.l 124 456877) (Zx.P 1707077)).sub (Zx.B Op.sub (Zx.l 11 209777) (Zx.l 124 465277) 881777) (Zx.P 2715077)) 4547677) Zx.Z
theorem t_read(ok:j2 o)(hm:s.mem.length=3072)(h4:4<=u)(hu:u<=100)(al:u % 4=0)(q:Q (.bytes (aw s.mem u 4)) fr (am (s.sMem (lay o s.mem)) lg lo (au wd 14 (ins o s.mem) ho F))):
  HK (d+4) false (.top 583) [.ref (.l 12),.int ((1024+u:Nat):Int),.int 4] fr (am (s.sMem (lay o s.mem)) lg lo (au wd 14 (ins o s.mem) ho F)) Q E:=by
 exists ok hm h4 hu al q,zF fr,zN d,aK E,aK Q,zm s,zL F,zv lg,zo lo,zo ho,zL wd,zN u,zO o;refine .dw (kf rfl ?_);have hu':u+4<=3072:=qC (qQ hu 4) (by decide);have hm':(lay o s.mem).length=3072:=oP ok hm;refine taken (s:=s.sMem (lay o s.mem)) hm' (.nat hu') ?_;have l4:(aw (lay o s.mem) u 4).length=4:=aQ (hm'▸hu');refine f_baA (bs:=aw (lay o s.mem) u 4) (l4.symm▸by decide) (.sym0 λn1=>?_);refine f_srt ok (a9 rfl) (.sym0 λn2=>?_);refine aI (.head _) srt_0 ?_;refine mX (Int.max_eq_right (Int.ofNat_le.mpr (qI 1024 u))) ?_;refine mW (k:=1028) (Int.min_eq_left (Int.ofNat_le.mpr (qQ (qI 1024 u) 4))) ?_;refine jX ?_;have b0:1024+u<100000:=r6 (qN hu 1024) (by decide);refine⟨ff b0 (b:=1028) (by decide),?_⟩;refine lp_0 (Int.ofNat_le.mpr (qN h4 1024)) ?_;cases o with
 | none =>
  refine .nil (.head _) rfl ?_;refine lp (.tail _ (.head _)) (l4.symm▸by decide) ?_;refine(show aw (lay none s.mem) u 4=_ from gR ok hm h4 nofun al).symm▸?_;exact⟨_,.cons _ (.cons _ (.refl _)),q⟩
 | some t =>
  refine aI (.head _) rfl ?_;by_cases e:t=u
  .subst e;refine mX (Int.max_self _) ?_;refine mW (Int.min_self _) ?_;refine jX ?_;refine⟨ff (b:=1024+t+4) b0 (r6 (qQ (qN hu 1024) 4) (by decide)),?_⟩;have l4':(aw s.mem t 4).length=4:=aQ (hm▸hu');refine lp_4 (I:=RdI n1 n2 (am (s.sMem (lay (some t) s.mem)) lg lo (au wd 14 (ins (some t) s.mem) ho F)) t t ((srt (some t)).map V.int) (aw s.mem t 4)) ⟨⟨_,l4,rfl,rfl⟩,⟨_,rfl⟩,λ_=>rfl⟩ ?_ ?_
   .intro k ⟨fr,L⟩ Q E K hk ⟨⟨l,e1,e2,e3⟩,_,e4⟩ q;subst e3;obtain⟨c,g⟩:∃c,(aw s.mem t 4)[k]?=some c:=⟨_,List.getElem?_eq_getElem (l4'.symm▸hk)⟩;refine(show ∀f,f=_->(wp (d+3) b583 false).stms f ((.s n2,.list ((srt (some t)).map V.int))::(.s n1,.barr l)::am (s.sMem (lay (some t) s.mem)) lg lo (au wd 14 (ins (some t) s.mem) ho F)) (λf fr L=>match f with|.next=>K (fr,L)|f=>Q f fr L) E from λf e=>e▸?_) _ (e4 _);refine cM (a9 rfl) (ln t) ?_;refine nX (idx_k (l4'.symm▸hk) (l4'.symm▸by decide)) g ?_;refine u_barr (j:=k) ⟨[_],_,rfl,rfl⟩ (e1.symm▸by decide) (idx_k (e1.symm▸hk) (e1.symm▸by decide)) (byteOf_u _) ?_;exact q _ ⟨⟨_,List.length_set.trans e1,kx (e1.symm▸hk) e2 g,rfl⟩,⟨_,rfl⟩,λ_=>rfl⟩
   .intro⟨fr,L⟩ ⟨⟨l,e1,e2,e3⟩,⟨r,e4⟩,_⟩;subst e3;subst e4;refine .nil (.head _) rfl ?_;refine lp (.tail _ (.head _)) (e1.symm▸by decide) ?_;refine(j9 e1 l4' e2).symm▸?_;exact⟨_,.cons _ (.cons _ (.refl _)),q⟩
  .have a:=al_gap (iO (ok t rfl).al al e);refine mX fu ?_;refine mW (min_nat (a:=1024+t+4) (b:=1024+u+4)) ?_;refine jX ?_;have m1:max t u<=100:=Nat.max_le.mpr ⟨qC (ok t rfl).hi (by decide),hu⟩;have ea:max (1024+t) (1024+u)=1024+max t u:=Nat.add_max_add_left ..;have eb:min (1024+t+4) (1024+u+4)=1024+(min t u+4):=(Nat.add_min_add_right ..).trans (qF (·+4) (Nat.add_min_add_left ..));refine(ea).symm▸?_;refine(eb).symm▸?_;refine⟨ff (r6 (qN m1 1024) (by decide)) (r6 (qN (qC a m1) 1024) (by decide)),?_⟩;refine lp_0 (Int.ofNat_le.mpr (qN a 1024)) ?_;refine .nil (.head _) rfl ?_;refine lp (.tail _ (.head _)) (l4.symm▸by decide) ?_;refine(show aw (lay (some t) s.mem) u 4=_ from gR ok hm h4 (λz=>e (qJ z)) al).symm▸?_;exact⟨_,.cons _ (.cons _ (.refl _)),q⟩
end
end
section
section
variable {fr:Fr} {L L':Hp} {d:Nat} {hd:Bool} {E:Hd->Fr->Hp->Prop} {n:Hd} {Q:V->Fr->Hp->Prop} {s:Ms} {es:List V} {F:Hp} {lg:V} {lo ho:O} {wd:List Nat} {u t:Nat} {o:Option Nat} {di:Nat} {dc:List (Int×V)} {ms:List (Nat×List UInt8)} {r:Row}
noncomputable def Row.cls:Row->Nat
 | .addi ..=>19
 | .alu ..=>51
 | .mem true ..=>35
 | .mem false ..=>3
 | .ecall=>115
 | .bad=>0
 | .ret=>103
noncomputable def Row.isMem:Row->Bool
 | .mem ..=>true
 | _=>false
theorem cls_eq:∀r:Row,r.word % 128=r.cls
 | .addi ..=>Nat.mul_add_mod ..
 | .alu ..=>Nat.mul_add_mod ..
 | .mem true ..=>Nat.mul_add_mod ..
 | .mem false ..=>Nat.mul_add_mod ..
 | .ecall=>rfl
 | .bad=>rfl
 | .ret=>rfl
theorem cls_mem:∀r:Row,[3,35].any (ai · (r.cls:Int))=r.isMem
 | .addi ..=>rfl
 | .alu ..=>rfl
 | .mem true ..=>rfl
 | .mem false ..=>rfl
 | .ecall=>rfl
 | .bad=>rfl
 | .ret=>rfl
theorem of_low:∀{l:List UInt8} {w:Nat},l.length=4->bn l=w->∃c,l[0]?=some c/\c.toNat % 128=w % 128
 | c::r,w,_,e=>⟨c,rfl,by rw[<-e];exact((qF (· % 128) (show c.toNat+256*bn r=_ by rw[Nat.add_comm,show 256=128*2 from rfl,Nat.mul_assoc])).trans (Nat.mul_add_mod ..)).symm⟩
theorem isAcc{p:Nat}(ep:p=1024+u)(ok:j2 o)(hm:s.mem.length=3072)(h4:4<=u)(hu:u<=100)(al:u % 4=0)(hw:bn (aw s.mem u 4)=r.word)(q:Q (.bool r.isMem) fr (am (s.sMem (lay o s.mem)) lg lo (au wd 14 (ins o s.mem) ho F))):
  HK (d+5) false (.top 625) [.ref (.l 12),.int p] fr (am (s.sMem (lay o s.mem)) lg lo (au wd 14 (ins o s.mem) ho F)) Q E:=by
 exists ep ok hm h4 hu al hw q,zF fr,zN d,aK E,aK Q,zm s,zL F,zv lg,zo lo,zo ho,zL wd,zN u,zO o,zr r,zN p;subst ep;refine kf rfl ?_;refine y_dict (es:=ins o s.mem) (a9 rfl) (qC (Nat.le_of_lt (srt_ok ok s.mem).2.2) (by decide)) ?_;have ne:nonE (ins o s.mem)=true:=by cases o<;>rfl
 refine aB (qF not ne) ?_;refine t_read ok hm h4 hu al ?_;have l4:(aw s.mem u 4).length=4:=aQ (hm▸qC (qQ hu 4) (by decide));refine nn λno=>?_;obtain⟨c,g,e⟩:=of_low l4 hw;refine no ?_;refine nX (l4.symm▸rfl) g ?_;have z:[3,35].any (ai · (Builtin.bitAnd ((c.toNat:Nat):Int) 127))=r.isMem:=by rw[show Builtin.bitAnd ((c.toNat:Nat):Int) 127=_ from ee _ 7,e,cls_eq,cls_mem]
 exact(show Q (.bool ([3,35].any (ai · (Builtin.bitAnd ((c.toNat:Nat):Int) 127)))) fr (am (s.sMem (lay o s.mem)) lg lo (au wd 14 (ins o s.mem) ho F)) from z▸q)
noncomputable def trapS:List Nat:=[116,114,97,112]
noncomputable def Rs.told:Rs->Option Int->List Nat
 | .stop,some _=>p6
 | .stop,none=>trapS
 | _,_=>[]
noncomputable def Rs.to:Rs->Option Int->Ms->Ms
 | .stop,some v,s=>s.sEnd v
 | .stop,none,s=>s
 | .back,_,s=>s.sPc 1024
 | .next rg mem out _,_,s=>{s with rg:=rg,mem:=mem,out:=out,pc:=s.pc+4}
noncomputable def Rs.sto:Rs->gm
 | .next _ _ _ t=>t
 | _=>[]
noncomputable def Rs.mem:Rs->List UInt8->List UInt8
 | .next _ m _ _,_=>m
 | _,m=>m
inductive Res (s:Ms) (es:List V) (ms:List (Nat×List UInt8)) (x:Rs):List Nat->Ms->List V->Prop
 | mk {es'} (st:Option Int) (kn:List (Int×V)) (g:Lg es (ms++fp x.sto) 3 es') (k:KN kn) (l:kn.length<=s.kn.length+1):Res s es ms x (x.told st) (x.to st (s.sKn kn)) es'
theorem o9{M:List UInt8}(h:M=s.mem):s.sMem M=s:=by subst h;rfl
theorem done0(R:Rdy s t es ms r)(hx:ah s.rg 1=1024)(q:∀told s' es' wd,Res s es ms (r.go s.rg s.mem s.out) told s' es'->Q (.str told) fr (aA s' es' (au wd di dc ho F))):
  HK (d+11) false (.top 611) [.ref (.l 12)] fr (aA s es (au wd di dc ho F)) Q E:=by
 exists R hx q,zF fr,zN d,aK E,aK Q,zm s,zL es,zL F,zo ho,zL wd,zN t,zN di,zL dc,zL ms,zr r;refine .dw (kf rfl ?_);refine mstep R hx ?_;cases e:r.go s.rg s.mem s.out with
 | back=>exact λes' kn G K hk=>dw0 (q _ _ _ _ (e▸.mk none _ ((List.append_nil ms).symm▸G) K hk))
 | next rg mem out t=>exact λes' kn G K hk=>dw0 (q _ _ _ _ (e▸.mk none _ G K hk))
 | stop =>
  refine⟨λw es' kn G K hk n k pc=>?_,λst es' kn G K hk=>dw0 (q _ _ _ _ (e▸.mk (some st) _ ((List.append_nil ms).symm▸G) K hk))⟩;refine⟨58,_,.tail _ (.head _),rfl,?_⟩;refine gc (.exc (.tail _ (.head _)) (.head _) rfl) rfl ?_;exact⟨_,.cons _ (.cons _ (.refl _)),q _ _ _ _ (e▸.mk none _ ((List.append_nil ms).symm▸G) K hk)⟩
theorem p9{s1:Ms}(e1:s1=s)(R:Rdy s t es ms r)(hx:ah s.rg 1=1024)(q:∀told s' es' wd,Res s es ms (r.go s.rg s.mem s.out) told s' es'->Q (.str told) fr (aA s' es' (au wd di dc ho F))):
  HK (d+11) false (.top 611) [.ref (.l 12)] fr (aA s1 es (au wd di dc ho F)) Q E:=by
 subst e1;exact done0 R hx q
end
end
section
section
variable {fr:Fr} {L L':Hp} {d:Nat} {hd:Bool} {E:Hd->Fr->Hp->Prop} {n:Hd} {Q:V->Fr->Hp->Prop} {s s':Ms} {es es':List V} {F:Hp} {lg:V} {lo ho:O} {wd told:List Nat} {u t:Nat} {o:Option Nat} {di:Nat} {dc:List (Int×V)} {ms:List (Nat×List UInt8)} {r:Row} {x:Rs} {M:List UInt8}
theorem to_mem(s:Ms):∀(x:Rs) (st:Option Int),(x.to st s).mem=x.mem s.mem
 | .stop,some _=>rfl
 | .stop,none=>rfl
 | .back,_=>rfl
 | .next ..,_=>rfl
theorem go_len(hm:s.mem.length=3072):((r.go s.rg s.mem s.out).mem s.mem).length=3072:=by
 cases r with
 | ecall =>
  refine(?_:(Rs.mem (match Nat.beq (ah s.rg 17) 1 with|true=>_|false=>_) s.mem).length=3072);cases Nat.beq (ah s.rg 17) 1<;>exact hm
 | mem st a b c =>
  cases st with
  | false =>
   refine(?_:(Rs.mem (match kh (cJ s.rg b c) with|true=>_|false=>_) s.mem).length=3072);cases kh (cJ s.rg b c)<;>exact hm
  | true =>
   refine(?_:(Rs.mem (match kh (cJ s.rg b c) with|true=>_|false=>_) s.mem).length=3072);cases k:kh (cJ s.rg b c) with
   | false=>exact hm
   | true=>exact(b8 (w:=f5 4 (ah s.rg a)) (by rw[hm];exact(gb k).h)).trans hm
 | _=>exact hm
theorem Res.len(h:Res s es ms (r.go s.rg s.mem s.out) told s' es')(hm:s.mem.length=3072):s'.mem.length=3072:=by
 cases h with
 | mk st kn=>exact(qF List.length (to_mem _ _ st)).trans (go_len hm)
noncomputable def Rs.sMem(M:List UInt8):Rs->Rs
 | .next rg _ out t=>.next rg M out t
 | x=>x
theorem go_non(hr:r.isMem=false):r.go s.rg M s.out=(r.go s.rg s.mem s.out).sMem M/\(r.go s.rg s.mem s.out).mem s.mem=s.mem:=by
 revert hr;revert s r M;refine @al3 _ _ _ zm zr zL ?P ((?f:∀a b c,?P a b c) _ _ _);intro s r M hr;cases r with
 | ecall =>
  refine(?_:(match Nat.beq (ah s.rg 17) 1 with|true=>_|false=>_)=Rs.sMem M (match Nat.beq (ah s.rg 17) 1 with|true=>_|false=>_)/\Rs.mem (match Nat.beq (ah s.rg 17) 1 with|true=>_|false=>_) s.mem=s.mem);cases Nat.beq (ah s.rg 17) 1<;>exact⟨rfl,rfl⟩
 | mem=>cases hr
 | _=>exact⟨rfl,rfl⟩
theorem to_sMem(s:Ms):∀(x:Rs) (st:Option Int),(x.sMem M).to st (s.sMem M)=(x.to st s).sMem M
 | .stop,some _=>rfl
 | .stop,none=>rfl
 | .back,_=>rfl
 | .next ..,_=>rfl
theorem pL:∀(x:Rs) (st:Option Int),(x.sMem M).told st=x.told st
 | .stop,some _=>rfl
 | .stop,none=>rfl
 | .back,_=>rfl
 | .next ..,_=>rfl
theorem sto_sMem:∀x:Rs,(x.sMem M).sto=x.sto
 | .stop=>rfl
 | .back=>rfl
 | .next ..=>rfl
inductive Rnon (s:Ms) (es:List V) (ms:List (Nat×List UInt8)) (x:Rs) (M:List UInt8) (told:List Nat) (es':List V):Ms->Prop
 | mk {s1} (h:Res s es ms x told s1 es') (e:s1.mem=s.mem):Rnon s es ms x M told es' (s1.sMem M)
theorem oj(hr:r.isMem=false)(h:Res (s.sMem M) es ms (r.go s.rg M s.out) told s' es'):Rnon s es ms (r.go s.rg s.mem s.out) M told es' s':=by
 exists hr h,zm s,zm s',zL es,zL es',zL told,zL ms,zr r,zL M;have g:=go_non (M:=M) (s:=s) hr;rw[g.1] at h;cases h with
 | mk st kn G K l =>
  rw[show(Rs.sMem M _).to st ((s.sMem M).sKn kn)=_ from to_sMem (s.sKn kn) _ st,pL];exact .mk (.mk st kn (sto_sMem (M:=M) _▸G) K l) ((to_mem _ _ _).trans g.2)
theorem Rdy.sMem(R:Rdy s t es ms r)(h1:M.length=3072)(h2:aw M t 4=aw s.mem t 4):Rdy (s.sMem M) t es ms r:={R with P:={R.P with hm:=h1},hw:=(qF bn h2).trans R.hw}
theorem Sp.relay{t:Nat}{mem:List UInt8}(h:Sp t)(hm:mem.length=3072):ay (ay mem 0 EB) t EB=lay (some t) mem:=(jg (hm▸qC (qI _ _) h.h) h.lo).symm
theorem Sp.lift{t:Nat}{mem:List UInt8}(h:Sp t)(hm:mem.length=3072):ay (lay (some t) mem) t (aw mem t 4)=lay none mem:=by
 have ht:t<=mem.length:=hm▸qC (qI _ _) h.h;refine(h.relay hm)▸?_;have l0:(ay mem 0 EB).length=3072:=aR hm (t:=0) (by decide);have l4:(aw mem t 4).length=4:=aQ (hm▸h.h);rw[cq (l0▸hm▸ht) l4,<-bV (w:=EB) (n:=4) (r0 _) h.lo,cS (l0▸h.h)];rfl
theorem put1{t:Nat}{mem m:List UInt8}{b:V}(e:b=.bytes (aw m t 4))(e0:aw mem 0 4=aw m 0 4):cH ai ((1024+t:Nat):Int) b (ins (some t) mem)=ins (some t) m:=by
 show(match ai ((1024+t:Nat):Int) ((1024+t:Nat):Int) with|true=>_|false=>_)=_;refine(bj rfl).symm▸?_;refine(e).symm▸?_;show [_,(1024,V.bytes (aw mem 0 4))]=_;refine(e0).symm▸?_;rfl
theorem Sp.put0{t:Nat}{mem:List UInt8}{b:V}(h:Sp t):cH ai 1024 b (ins (some t) mem)=[(((1024+t:Nat):Int),.bytes (aw mem t 4)),(1024,b)]:=by
 show(match ai ((1024+t:Nat):Int) 1024 with|true=>_|false=>_)=_;rw[bB h.ne];rfl
theorem Sp.put10{t:Nat}{mem m:List UInt8}{v w:V}(h:Sp t)(e:v=.bytes (aw m 0 4))(e':w=.bytes (aw m t 4)):cH ai ((1024+t:Nat):Int) w (cH ai 1024 v (ins (some t) mem))=ins (some t) m:=by
 rw[h.put0,e,e'];show(match ai ((1024+t:Nat):Int) ((1024+t:Nat):Int) with|true=>_|false=>_)=_;rw[bj rfl];rfl
theorem p5{t:Nat}{mem:List UInt8}(h1:4<=t)(e:o≠some t):b9 ai ((1024+t:Nat):Int) (ins o mem)=none:=by
 have f0:ai 1024 ((1024+t:Nat):Int)=false:=bB λz=>absurd (qC h1 (qU (Nat.add_left_cancel (n:=1024) (k:=0) (Int.ofNat.inj z.symm)))) (by decide);cases o with
 | none =>
  refine(?_:(match ai 1024 ((1024+t:Nat):Int) with|true=>_|false=>_)=_);refine(f0).symm▸?_;rfl
 | some u =>
  refine(?_:(match ai ((1024+u:Nat):Int) ((1024+t:Nat):Int) with|true=>_|false=>match ai 1024 ((1024+t:Nat):Int) with|true=>_|false=>_)=_);refine(f0).symm▸?_;refine(bB λz=>e (qF some (Nat.add_left_cancel (Int.ofNat_inj.mp z)))).symm▸?_;rfl
noncomputable def Tst(s:Ms)(es:List V)(ms:List (Nat×List UInt8))(r:Row)(o:Option Nat)(ho:O)(F:Hp)(Q:V->Fr->Hp->Prop)(fr:Fr):Prop :=
 ∀told s' es' wd,Res s es ms (r.go s.rg s.mem s.out) told s' es'->Q (.str told) fr (aA (s'.sMem (lay o s'.mem)) es' (au wd 14 (ins o s'.mem) ho F))
theorem t_step(ok:j2 o)(R:Rdy s t es ms r)(hx:ah s.rg 1=1024)(h1:4<=t)(h2:t<=100)(q:Tst s es ms r o ho F Q fr):
  HK (d+12) false (.top 618) [.ref (.l 12)] fr (aA (s.sMem (lay o s.mem)) es (au wd 14 (ins o s.mem) ho F)) Q E:=by
 exists ok R hx h1 h2 q,zF fr,zN d,aK E,aK Q,zm s,zL es,zL F,zo ho,zL wd,zN t,zO o,zL ms,zr r;refine .dw (kf rfl ?_);have hm:=R.P.hm;have l4:∀{m:List UInt8} {t:Nat},m.length=3072->t+4<=3072->(aw m t 4).length=4:=λe h=>aQ (e▸h);refine isAcc R.P.e ok hm h1 h2 R.P.al R.hw ?_;have fin:∀{n us told s' es' wd M dc},M=lay o s'.mem->dc=ins o s'.mem->Res s es ms (r.go s.rg s.mem s.out) told s' es'->Dw Q (.str told) fr (aA (s'.sMem M) es' (au wd 14 dc ho ((n,.list us)::F))):=λe1 e2 h=>by
  rw[e1,e2];exact⟨_,List.Sublist.append_left (.cons _ (.refl F)) (aA _ _ (au _ 14 _ ho [])),q _ _ _ _ h⟩
 cases hr:r.isMem with
 | true =>
  refine f_srt ok (a9 rfl) (.sym (aA (s.sMem (lay o s.mem)) es (au wd 14 (ins o s.mem) ho [])) F rfl λn=>?_);cases o with
  | none =>
   refine aI (av (ao (.head _))) rfl ?_;refine cM (a:=.bytes (aw s.mem 0 4)) (a9 rfl) rfl ?_;refine load (s:=s.sMem (lay none s.mem)) (w:=aw s.mem 0 4) (aR hm (by decide)) (ad0.w (l4 hm (by decide))) ?_;refine .nil (av (ao (.head _))) rfl ?_;have m0:ay (lay none s.mem) 0 (aw s.mem 0 4)=s.mem:=(cq (r0 _) (l4 hm (t:=0) (by decide))).trans (cS (by rw[hm];decide));refine p9 (s:=s) (o9 m0) R hx λtold s' es' wd h=>?_;have hm':=h.len hm;refine aI (av (ao (.head _))) rfl ?_;refine read hm' ad0 ?_;refine dA (aa rfl) (show 1<=1000000 by decide) ?_;refine load (w:=EB) hm' ad0 ?_;refine .nil (av (ao (.head _))) rfl ?_;exact fin rfl rfl h
  | some t =>
   have b:=ok t rfl;have e1:=aR hm b.h;have e0:(lay (some t) s.mem).length=3072:=aR e1 (t:=0) (by decide);refine aI (av (ao (.head _))) rfl ?_;refine cM (a:=.bytes (aw s.mem 0 4)) (a9 rfl) b.find0 ?_;refine load (s:=s.sMem (lay (some t) s.mem)) (w:=aw s.mem 0 4) e0 (ad0.w (l4 hm (by decide))) ?_;refine aI (av (ao (.head _))) rfl ?_;refine cM (a:=.bytes (aw s.mem t 4)) (a9 rfl) (ln t) ?_;refine load (s:=s.sMem (ay (lay (some t) s.mem) 0 (aw s.mem 0 4))) (w:=aw s.mem t 4) ((b8 (by rw[l4 hm (by decide),e0];decide)).trans e0) (b.ad.w (l4 hm b.h)) ?_;refine .nil (av (ao (.head _))) rfl ?_;refine p9 (s:=s) (o9 (b.un hm)) R hx λtold s' es' wd h=>?_;have hm':=h.len hm;refine aI (av (ao (.head _))) rfl ?_;refine read hm' ad0 ?_;refine dA (aa rfl) (show 2<=1000000 by decide) ?_;refine load (w:=EB) hm' ad0 ?_;refine aI (av (ao (.head _))) rfl ?_;refine read (s:=s'.sMem (ay s'.mem 0 EB)) (aR hm' (t:=0) (by decide)) b.ad ?_;refine dA (aa rfl) (qC (gQ ..) (show 2+1<=1000000 by decide)) ?_;refine load (s:=s'.sMem (ay s'.mem 0 EB)) (w:=EB) (aR hm' (t:=0) (by decide)) b.ad ?_;refine .nil (av (ao (.head _))) rfl ?_;exact fin (s':=s') (b.relay hm') (b.put10 rfl (qF V.bytes (bV (w:=EB) (r0 _) b.lo))) h
 | false =>
  by_cases e:o=some t
  .subst e;have b:=ok t rfl;have e1:=aR hm b.h;have e0:(lay (some t) s.mem).length=3072:=aR e1 (t:=0) (by decide);have f:∀mem,b9 ai (s.pc:Int) (ins (some t) mem)=some (.bytes (aw mem t 4)):=λmem=>(qF (λp:Nat=>b9 ai (p:Int) _) R.P.e).trans (ln t);refine ou (es:=ins (some t) s.mem) (a9 rfl) ?_;refine aJ (qF Option.isSome (f _)) ?_;refine .sym (aA (s.sMem (lay (some t) s.mem)) es (au wd 14 (ins (some t) s.mem) ho [])) F rfl λn=>?_;refine aI (av (ao (.head _))) rfl ?_;refine cM (a:=.bytes (aw s.mem t 4)) (a9 rfl) (f _) ?_;refine load (s:=s.sMem (lay (some t) s.mem)) (w:=aw s.mem t 4) e0 (R.P.ad.w (l4 hm b.h)) ?_;refine .nil (av (ao (.head _))) rfl ?_;have el:=b.lift hm;have e3:(lay none s.mem).length=3072:=aR hm (t:=0) (by decide);refine p9 (s:=s.sMem (lay none s.mem)) (qF s.sMem el) (R.sMem e3 (gR (o:=none) nofun hm b.lo nofun b.al)) hx λtold s' es' wd h=>?_;cases oj hr h with
   | @mk s1 h' e' =>
    refine aI (av (ao (.head _))) rfl ?_;refine read e3 R.P.ad ?_;refine dA (aa rfl) (show 2<=1000000 by decide) ?_;refine load (w:=EB) e3 R.P.ad ?_;refine .nil (av (ao (.head _))) rfl ?_;exact fin (s':=s1) ((b.relay hm).trans (e'▸rfl)) ((qF (λp:Nat=>cH ai (p:Int) _ _) R.P.e).trans (put1 (qF V.bytes (e'▸bV (w:=EB) (r0 _) b.lo)) (e'▸rfl))) h'
  .refine ou (es:=ins o s.mem) (a9 rfl) ?_;refine aB (qF Option.isSome ((qF (λp:Nat=>b9 ai (p:Int) _) R.P.e).trans (p5 h1 e))) ?_;refine .sym (aA (s.sMem (lay o s.mem)) es (au wd 14 (ins o s.mem) ho [])) F rfl λn=>?_;refine .nil (av (ao (.head _))) rfl ?_;refine p9 (s:=s.sMem (lay o s.mem)) rfl (R.sMem (oP ok hm) (gR ok hm h1 e R.P.al)) hx λtold s' es' wd h=>?_;cases oj hr h with
   | @mk s1 h' e' =>
    refine .nil (av (ao (.head _))) rfl ?_;exact fin (s':=s1) (e'▸rfl) (e'▸rfl) h'
end
end
section
section
variable {fr:Fr} {L L':Hp} {d:Nat} {hd:Bool} {E:Hd->Fr->Hp->Prop} {n:Hd} {Q:V->Fr->Hp->Prop} {s s':Ms} {es es':List V} {F:Hp} {lg:V} {lo ho:O} {wd told:List Nat} {u t:Nat} {o:Option Nat} {ms:List (Nat×List UInt8)} {r:Row} {x:Rs}
variable {rg:List Nat} {mem mem' out:List UInt8} {a b i sp:Nat} {v:Int} {st:gm}
noncomputable def Fre(a:Nat):Prop:=a≠1/\a≠2
inductive Ofs:Nat->Int->Bool->Prop
 | sp {v:Int} {st:Bool} (lo:-32<=v) (hi:v<=96) (al:v % 4=0):Ofs 2 v st
 | ob {v:Nat} {st:Bool} (lo:1536<=v) (hi:v<=1548):Ofs 0 v st
 | ld {v:Int}:Ofs 0 v false
inductive Adi:Nat->Nat->Int->Prop
 | fre {a b:Nat} {v:Int} (h:Fre a):Adi a b v
 | sp {v:Int} (al:v % 4=0) (lo:-32<=v) (hi:v<=32):Adi 2 2 v
noncomputable def Row.dr:Row->Prop
 | .addi a b v=>Adi a b v
 | .alu _ a _ _=>Fre a
 | .mem st a b v=>Fre a/\Ofs b v st
 | _=>True
theorem cx(h:a≠i){v:Nat}:ah (rg.set a v) i=ah rg i:=by unfold ah;rw[List.getElem?_set_ne h]
theorem gK(h:a≠i):ah (bL rg a v) i=ah rg i:=by
 unfold bL;split
 .rfl
 .exact cx h
theorem dQ(h:a<rg.length){v:Nat}:ah (rg.set a v) a=v:=by unfold ah;rw[List.getElem?_set_self h];rfl
theorem rput_z:ah (bL rg a v) 0=ah rg 0:=by
 by_cases e:a=0
 .unfold bL;rw[if_pos e]
 .exact gK e
structure Iv (sp t:Nat) (rg:List Nat):Prop where
 hr:RG rg
 z:ah rg 0=0
 ra:ah rg 1=1024
 s4:ah rg 2 % 4=0
 lo:sp<=ah rg 2+32*t
 hi:ah rg 2<=sp+32*t
inductive Sw (mem:List UInt8):List UInt8->gm->Prop
 | no:Sw mem mem []
 | st {u:Nat} {n:List UInt8} (h:n.length=4) (al:u % 4=0) (lo:512<=u) (hi:u+4<=3072):Sw mem (ay mem u n) [(u,aw mem u 4,n)]
theorem Iv.up(I:Iv sp t rg):Iv sp (t+1) rg:={I with lo:=qC I.lo (qN (qS 32 (Nat.le_succ t)) _),hi:=qC I.hi (qN (qS 32 (Nat.le_succ t)) _)}
theorem Iv.put(I:Iv sp t rg)(h:Fre a):Iv sp (t+1) (bL rg a v):=by
 have e:ah (bL rg a v) 2=ah rg 2:=gK h.2;have J:=I.up;exact⟨J.hr.put,rput_z.trans J.z,(gK h.1).trans J.ra,e▸J.s4,e▸J.lo,e▸J.hi⟩
structure Bd (sp t:Nat):Prop where
 lo:3136<=sp
 hi:sp<=3800
 t:t<=20
noncomputable def Rs.Safe(sp t:Nat)(mem out:List UInt8):Rs->Prop
 | .next rg mem' out' s=>Iv sp (t+1) rg/\Sw mem mem' s/\out'.length<=out.length+1
 | _=>True
theorem addi_sp(B:Bd sp t)(I:Iv sp t rg)(al:v % 4=0)(lo:-32<=v)(hi:v<=32):Iv sp (t+1) (bL rg 2 ((ah rg 2:Int)+(dy v:Nat))):=by
 refine nn λno=>?_;obtain⟨hr,z,ra,s4,l,h⟩:=I;obtain⟨b1,b2,b3⟩:=B;refine no ?_;have e:ah (bL rg 2 ((ah rg 2:Int)+(dy v:Nat))) 2=dy ((ah rg 2:Int)+(dy v:Nat)):=by
  unfold bL;exact dQ (hr.len▸by decide)
 have e2:((dy ((ah rg 2:Int)+(dy v:Nat)):Nat):Int)=(ah rg 2:Int)+v:=by
  rw[b4,b4];lia
 exact⟨hr.put,rput_z.trans z,(gK (by decide)).trans ra,by rw[e];lia,by rw[e];lia,by rw[e];lia⟩
theorem off_lo{st:Bool}(B:Bd sp t)(I:Iv sp t rg)(h:Ofs b v st)(ht:st=true):1536<=cJ rg b v:=by
 cases h with
 | sp lo hi al =>
  obtain⟨hr,z,ra,s4,l,h⟩:=I;obtain⟨b1,b2,b3⟩:=B;have e:=b4 ((ah rg 2:Int)+v);refine(?_:1536<=dy ((ah rg 2:Int)+v));lia
 | @ob v _ lo hi =>
  refine(?_:1536<=dy ((ah rg 0:Int)+v));refine(I.z).symm▸?_;have e:=b4 (((0:Nat):Int)+(v:Int));lia
 | ld=>cases ht
theorem Row.safe(B:Bd sp t)(ok:r.ok)(dr:r.dr)(I:Iv sp t rg):(r.go rg mem out).Safe sp t mem out:=by
 exists B ok dr I,zN t,zr r,zL rg,zL mem,zL out,zN sp;cases r with
 | addi a c v =>
  refine⟨?_,.no,Nat.le_succ _⟩;cases(show Adi a c v from dr) with
  | fre h=>exact I.put h
  | sp al lo hi=>exact addi_sp B I al lo hi
 | alu k a c e=>exact⟨I.put dr,.no,Nat.le_succ _⟩
 | bad=>trivial
 | ret=>trivial
 | ecall =>
  refine(?_:Rs.Safe sp t mem out (match Nat.beq (ah rg 17) 1 with|true=>_|false=>_));cases Nat.beq (ah rg 17) 1 with
  | false=>trivial
  | true=>exact⟨I.up,.no,qU List.length_append⟩
 | mem st a c o =>
  cases st with
  | false =>
   refine(?_:Rs.Safe sp t mem out (match kh (cJ rg c o) with|true=>_|false=>_));cases kh (cJ rg c o) with
   | false=>trivial
   | true=>exact⟨I.put dr.1,.no,Nat.le_succ _⟩
  | true =>
   refine(?_:Rs.Safe sp t mem out (match kh (cJ rg c o) with|true=>_|false=>_));cases k:kh (cJ rg c o) with
   | false=>trivial
   | true =>
    have l:=off_lo B I dr.2 rfl;exact⟨I.up,.st (fA 4 _) (by have:=jJ k;lia) (Nat.le_sub_of_add_le l) (gb k).h,Nat.le_succ _⟩
theorem Sw.far(h:Sw mem mem' st)(hm:mem.length=3072)(hu:u+4<=512):aw mem' u 4=aw mem u 4:=by
 cases h with
 | no=>rfl
 | st h al lo hi=>exact cy (hm▸qC (qI _ 4) hi) (qC hu lo)
theorem Sw.len(h:Sw mem mem' st)(hm:mem.length=3072):mem'.length=3072:=by
 cases h with
 | no=>exact hm
 | st h al lo hi=>exact(b8 (hm▸h▸hi)).trans hm
structure Wr where
 b:Bool
 rg:List Nat
 mem:List UInt8
 out:List UInt8
 s:gm
theorem zR:Nonempty Wr:=⟨false,[],[],[],[]⟩
noncomputable def du(o:Option Nat):List Row->Nat->List Nat->List UInt8->List UInt8->Wr
 | [],_,rg,mem,out=>⟨false,rg,mem,out,[]⟩
 | r::rs,t,rg,mem,out=>if 0<t/\o=some (4+4*t) then⟨false,rg,mem,out,[]⟩ else match r.go rg mem out with
  | .stop=>⟨false,rg,mem,out,[]⟩
  | .back=>⟨true,rg,mem,out,[]⟩
  | .next rg' mem' out' s=>let w:=du o rs (t+1) rg' mem' out';⟨w.b,w.rg,w.mem,w.out,s++w.s⟩
noncomputable def Cd(rows:List Row)(t:Nat)(mem:List UInt8):Prop:=∀i r,(rows++[.bad])[i]?=some r->bn (aw mem (4+4*(t+i)) 4)=r.word
theorem Cd.tail{rows:List Row}(C:Cd (r::rows) t mem)(w:Sw mem mem' st)(hm:mem.length=3072)(h:t+rows.length<=30):Cd rows (t+1) mem':=λi r' e=>by
 have l:i<rows.length+1:=by
  have:=(List.getElem?_eq_some_iff.mp e).1;rw[List.length_append] at this;exact this
 rw[w.far hm (by lia),Nat.add_right_comm t 1 i];exact C (i+1) r' e
end
end
section
section
variable {fr:Fr} {L L':Hp} {d:Nat} {hd:Bool} {E:Hd->Fr->Hp->Prop} {n:Hd} {Q:V->Fr->Hp->Prop} {s s':Ms} {es es':List V} {F:Hp} {lg:V} {lo ho:O} {wd told:List Nat} {u t:Nat} {o:Option Nat} {ms:List (Nat×List UInt8)} {r:Row} {x:Rs} {dc:List (Int×V)}
noncomputable def Evt(n k:Nat)(kind:List Nat)(pc:Nat)(w:List Nat)(L:Hp):Hp:=(.s n,.inst 506 (.s k))::(.s k,.ns [(63,.str kind),(18,.int pc),(9,.str w)])::L
theorem p8{pre:Hp}{kind w:List Nat}{pc:Nat}(e:L=pre++F)(q:∀n k,Q (.ref (.s n)) fr (pre++Evt n k kind pc w F)):HK (d+3) hd (.top 506) [.str kind,.int pc,.str w] fr L Q E:=by
 subst e;refine fE rfl rfl (.sym pre F rfl λk=>.sym pre _ rfl λn=>?_);refine dg ?_;have m:∀{x y:Hd×O} {r:Hp},x∈pre++x::y::r/\y∈pre++x::y::r:=⟨qO _ (.head _),qO _ (.tail _ (.head _))⟩;have c:∀{x:Hd×O} {m:Hd} {o o':O},Chg (pre++x::(m,o)::F) m o o' (pre++x::(m,o')::F):=⟨_,_,(List.append_assoc pre [_] _).symm,(List.append_assoc pre [_] _).symm⟩;refine cr (.inst m.1 m.2 rfl) c rfl ?_;refine cr (.inst m.1 m.2 rfl) c rfl ?_;refine cr (.inst m.1 m.2 rfl) c rfl ?_;exact⟨rfl,q n k⟩
noncomputable def d7:List Nat:=[98,114,101,97,107]
theorem eventNo(q:Q .non fr L):HK (d+1) hd (.top 632) [.ref n,.str []] fr L Q E:=by
 refine kf rfl ?_;exact q
theorem eventOf{st:Option Int}(q:∀n k kind pe w,aF kind d7=false->Q (.ref (.s n)) fr (am s lg lo (au wd 14 dc ho (Evt n k kind pe w F)))):
  HK (d+4) hd (.top 632) [.ref (.l 12),.str (Rs.told .stop st)] fr (am s lg lo (au wd 14 dc ho F)) Q E:=by
 revert q;revert fr d hd E Q s F lg lo ho wd dc st;refine @al13 _ _ _ _ _ _ _ _ _ _ _ _ _ zF zN zB aK aK zm zL zv zo zo zL zL zO ?P ((?f:∀a b c d e f g h i j k l m,?P a b c d e f g h i j k l m) _ _ _ _ _ _ _ _ _ _ _ _ _);intro fr d hd E Q s F lg lo ho wd dc st q;refine .dw (kf rfl ?_);cases st<;>(
  refine .sym0 λm=>?_;refine mc_getS (.head _) ?_;refine k_getS (.head _) ?_;refine p8 (pre:=_::am s lg lo (au wd 14 dc ho [])) rfl λn k=>?_;exact⟨_,.cons _ (.refl _),q _ _ _ _ _ rfl⟩)
noncomputable def b639:X:=Zx.K (Zx.I (X.bop true (Zx.K (Zx.C (Zx.l 172 347034) .gt (Zx.n 0 99934) 683034) (Zx.K (Zx.C (Zx.a (Zx.a (Zx.l 8 356134) 17 1028134) 18 1280134) .isIn (Zx.a (Zx.l 8 369434) 150 1125434) 2708134) Zx.Z)) (Zx.P 3791034)) (Zx.K (Zx.r (Zx.f (Zx.g 171 436635) (Zx.K (Zx.s 5 608835) (Zx.K (Zx.a (Zx.a (Zx.l 8 363135) 17 1035135) 18 1287135) (Zx.K (Zx.s 8 207035) Zx.Z))) 2956635) 3539735) Zx.Z) Zx.Z 14624934) (Zx.K (Zx.A (Zx.l 113 428936) (Zx.m (Zx.l 8 350536) 174 (Zx.K (Zx.m (Zx.l 8 360336) 164 Zx.Z 780336 948336) Zx.Z) 1106536 2198536) 2864936) (Zx.K (Zx.I (Zx.C (Zx.l 113 431037) .isNot (X.lit .non (Zx.P 356137)) 1439037) (Zx.K (Zx.r (Zx.l 113 436638) 1019738) Zx.Z) Zx.Z 12104937) Zx.Z))
noncomputable def t639(d:Nat)(v:V):Ab Fl:=((wp (d+15) (Zx.l 172 344933) false).asg v).bind λ_=>(wp (d+15) b639 false).stms
noncomputable def fB(t:Nat):Fr:=⟨[(8,.ref (.l 12)),(173,.int 50000),(172,.int t),(113,.non)],[]⟩
inductive Fo:Nat->Fr->Prop
 | a:Fo 0 ⟨[(8,.ref (.l 12)),(173,.int 50000)],[]⟩
 | b {t u:Nat}:Fo (t+1) (fB u)
variable {W:Fl->Kn} {K:St->Prop}
theorem tn_hit{fr:Fr}{pc:Nat}(hf:Fo (t+1) fr)(e:s.pc=pc)(h:(b9 ai (pc:Int) dc).isSome=true)(q:∀n k fr,W (.ret (.ref (.s n))) fr (am s lg lo (au wd 14 dc ho (Evt n k d7 pc [] F)))):
  aU (t639 d) W E (.int ((t+1:Nat):Int)) (fr,am s lg lo (au wd 14 dc ho F)) K:=by
 subst e;cases hf with
 | b =>
  refine aJ (lU (Int.ofNat_lt.mpr (Nat.succ_pos t))) ?_;refine ou (a9 rfl) ?_;refine aJ h ?_;refine p8 (pre:=am s lg lo (au wd 14 dc ho [])) rfl λn k=>?_;exact q n k _
theorem Res.two{C:List Nat->Prop}(h:Res s es ms x told s' es')(c0:x≠.stop->C [])(c1:∀st,x=.stop->C (Rs.told .stop st)):C told:=by
 cases h with
 | mk st kn g k l =>
  cases x with
  | stop=>exact c1 st rfl
  | back=>exact c0 nofun
  | next=>exact c0 nofun
theorem lx{s1:Ms}(h:Res s es ms x told s' es')(q0:x≠.stop->Res s es ms x [] s' es'->Q .non fr (am s1 lg lo (au wd 14 dc ho F)))
  (q1:∀told n k kind pe w,x=.stop->aF kind d7=false->Res s es ms x told s' es'->Q (.ref (.s n)) fr (am s1 lg lo (au wd 14 dc ho (Evt n k kind pe w F)))) :
  HK (d+4) hd (.top 632) [.ref (.l 12),.str told] fr (am s1 lg lo (au wd 14 dc ho F)) Q E :=
 h.two (C:=λtold=>Res s es ms x told s' es'->HK (d+4) hd (.top 632) [.ref (.l 12),.str told] fr (am s1 lg lo (au wd 14 dc ho F)) Q E) (λe h=>eventNo (q0 e h)) (λst e h=>eventOf λn k kind pe w hk=>q1 _ n k kind pe w e hk h) h
theorem tn_go{fr:Fr}(hf:Fo t fr)(hn:t=0\/o≠some u)(ok:j2 o)(R:Rdy s u es ms r)(hx:ah s.rg 1=1024)(h1:4<=u)(h2:u<=100)
  (q0:∀s' es' wd,r.go s.rg s.mem s.out≠.stop->Res s es ms (r.go s.rg s.mem s.out) [] s' es'->K (fB t,aA (s'.sMem (lay o s'.mem)) es' (au wd 14 (ins o s'.mem) ho F)))
  (q1:∀told s' es' wd n k kind pe w fr,r.go s.rg s.mem s.out=.stop->aF kind d7=false->Res s es ms (r.go s.rg s.mem s.out) told s' es'->W (.ret (.ref (.s n))) fr (aA (s'.sMem (lay o s'.mem)) es' (au wd 14 (ins o s'.mem) ho (Evt n k kind pe w F)))) :
  aU (t639 d) W E (.int t) (fr,aA (s.sMem (lay o s.mem)) es (au wd 14 (ins o s.mem) ho F)) K:=by
 exists hf hn ok R hx h1 h2 q0 q1,zN d,aK E,zm s,zL es,zL F,zo ho,zL wd,zN u,zN t,zO o,zL ms,zr r,aK W,zp1 K,zF fr;cases hf with
 | a =>
  refine t_step ok R hx h1 h2 λtold s' es' wd h=>?_;refine lx h (λe h=>?_) λtold n k kind pe w e hk h=>?_
  .exact q0 _ _ _ e h
  .exact q1 _ _ _ _ _ _ _ _ _ _ e hk h
 | @b t _ =>
  refine aJ (lU (Int.ofNat_lt.mpr (Nat.succ_pos t))) ?_;refine ou (a9 rfl) ?_;refine aB (qF Option.isSome ((qF (λp:Nat=>b9 ai (p:Int) _) R.P.e).trans (p5 h1 (hn.resolve_left (Nat.succ_ne_zero t))))) ?_;refine t_step ok R hx h1 h2 λtold s' es' wd h=>?_;refine lx h (λe h=>?_) λtold n k kind pe w e hk h=>?_
  .exact q0 _ _ _ e h
  .exact q1 _ _ _ _ _ _ _ _ _ _ e hk h
end
end
section
section
variable {fr:Fr} {L L':Hp} {d:Nat} {hd:Bool} {E:Hd->Fr->Hp->Prop} {n:Hd} {Q:V->Fr->Hp->Prop} {s s':Ms} {es es':List V} {F:Hp} {lg:V} {lo ho:O} {wd told:List Nat} {u t sp:Nat} {o:Option Nat} {ms:List (Nat×List UInt8)} {r:Row} {x:Rs} {rows:List Row} {rg:List Nat} {mem out:List UInt8}
noncomputable def Hit(o:Option Nat)(t:Nat):Prop:=0<t/\o=some (4+4*t)
noncomputable def Rs.wk(rg:List Nat)(mem out:List UInt8)(k:List Nat->List UInt8->List UInt8->Wr):Rs->Wr
 | .stop=>⟨false,rg,mem,out,[]⟩
 | .back=>⟨true,rg,mem,out,[]⟩
 | .next rg' mem' out' s=>⟨(k rg' mem' out').b,(k rg' mem' out').rg,(k rg' mem' out').mem,(k rg' mem' out').out,s++(k rg' mem' out').s⟩
theorem hO(h:Hit o t):du o rows t rg mem out=⟨false,rg,mem,out,[]⟩:=by
 cases rows with
 | nil=>rfl
 | cons r rows=>exact if_pos h
theorem jz(h:¬Hit o t):du o (r::rows) t rg mem out=(r.go rg mem out).wk rg mem out (du o rows (t+1)):=by
 refine(if_neg h).trans ?_;cases r.go rg mem out<;>rfl
structure Go (sp t:Nat) (rows:List Row) (s:Ms) (es:List V) (ms:List (Nat×List UInt8)):Prop where
 B:Bd sp (t+rows.length)
 ok:∀r∈rows,r.ok/\r.dr
 C:Cd rows t s.mem
 I:Iv sp t s.rg
 pc:s.pc=1024+(4+4*t)
 hm:s.mem.length=3072
 kn:KN s.kn
 lk:s.kn.length<=1000+t
 G:LG es ms
 le:es.length<=3*t
 lo:s.out.length<=1000+t
 dn:s.dn=false
theorem Go.tt(g:Go sp t rows s es ms):t<=20:=qC (qI _ _) g.B.t
theorem Go.rdy(g:Go sp t rows s es ms)(e:(rows++[.bad])[0]?=some r)(ok:r.ok):Rdy s (4+4*t) es ms r :=
 have h:=g.tt
 ⟨⟨g.hm,g.pc,qC (qQ (qN (qS 4 h) 4) 4) (by decide),(Nat.add_mul_mod_self_left 4 4 t),g.kn,qC g.lk (qC (qN h 1000) (by decide))⟩,g.I.hr,g.G,qC g.le (qC (qS 3 h) (by decide)),qC g.lo (qC (qN h 1000) (by decide)),g.dn,ok,g.C 0 r e⟩
inductive Fnd (w:Wr) (ms:List (Nat×List UInt8)) (s:Ms) (es:List V) (kind:List Nat) (pe:Nat):Prop
 | mk (rg:s.rg=w.rg) (mem:s.mem=w.mem) (out:s.out=w.out) (G:LG es (ms++fp w.s)) (l:es.length<=100) (b:(aF kind d7=true/\pe=1024) ↔ w.b=true)
theorem Go.next{rg' mem' out' st}(g:Go sp t (r::rows) s es ms)(e:r.go s.rg s.mem s.out=.next rg' mem' out' st)(h:Res s es ms (.next rg' mem' out' st) [] s' es'):Go sp (t+1) rows s' es' (ms++fp st)/\s'.rg=rg'/\s'.mem=mem'/\s'.out=out':=by
 have z:=Row.safe (mem:=s.mem) (out:=s.out) ⟨g.B.lo,g.B.hi,g.tt⟩ (g.ok r (.head _)).1 (g.ok r (.head _)).2 g.I;rw[e] at z;cases h with
 | mk v kn G k l =>
  exact⟨⟨⟨g.B.lo,g.B.hi,qC (qU (Nat.add_right_comm t 1 _)) g.B.t⟩,λr' m=>g.ok r' (.tail _ m),g.C.tail z.2.1 g.hm (qC (qN (Nat.le_succ _) t) (qC g.B.t (by decide))),z.1,(qF (·+4) g.pc).trans rfl,z.2.1.len g.hm,k,qC l (r7 g.lk),G.lg,qC G.len (qQ g.le 3),qC z.2.2 (r7 g.lo),g.dn⟩,rfl,rfl,rfl⟩
variable {W:Fl->Kn} {done:St->Prop}
noncomputable def Out(o:Option Nat)(ho:O)(F:Hp)(W:Fl->Kn)(ms:List (Nat×List UInt8))(w:Wr):Prop:=∀n k kind pe wo s es wd fr,Fnd w ms s es kind pe->W (.ret (.ref (.s n))) fr (aA (s.sMem (lay o s.mem)) es (au wd 14 (ins o s.mem) ho (Evt n k kind pe wo F)))
theorem nob{kind:List Nat}{pe:Nat}(h:aF kind d7=true->pe≠1024):(aF kind d7=true/\pe=1024) ↔ false=true:=⟨λe=>(h e.1 e.2).elim,nofun⟩
theorem le100{t n k:Nat}(h:n<=3*t+k)(ht:t<=20)(hk:k<=40):n<=100:=qC h (Nat.add_le_add (qS 3 ht) hk)
theorem hit_{j:Nat}{fr:Fr}(g:Go sp t rows s es ms)(h:Hit o t)(f:Fo t fr)(q:Out o ho F W ms (du o rows t s.rg s.mem s.out)):Lp Prod.snd (aU (t639 d) W E) done (.rng t (j+1)) (fr,aA (s.sMem (lay o s.mem)) es (au wd 14 (ins o s.mem) ho F)):=by
 rw[hO h] at q;cases t with
 | zero=>exact absurd h.1 (Nat.lt_irrefl 0)
 | succ t =>
  have e:=h.2;subst e;refine lp_r ?_;refine tn_hit f g.pc (qF Option.isSome (ln (4+4*(t+1)))) λn k fr=>?_;exact q _ _ _ _ _ s _ _ _ (.mk rfl rfl rfl ((List.append_nil ms).symm▸g.G) (le100 (k:=0) g.le g.tt (by decide)) (nob λ_ e=>absurd (Nat.add_left_cancel (k:=0) e) (Nat.succ_ne_zero _)))
theorem stp_{w:Wr}(g:Go sp t rows s es ms)(e:w=⟨false,s.rg,s.mem,s.out,[]⟩)(hx:x=.stop)(q:Out o ho F W ms w):∀told s' es' wd n k kind pe wo fr,x=.stop->aF kind d7=false->Res s es ms x told s' es'->W (.ret (.ref (.s n))) fr (aA (s'.sMem (lay o s'.mem)) es' (au wd 14 (ins o s'.mem) ho (Evt n k kind pe wo F))):=by
 subst e;subst hx;intro told s' es' wd n k kind pe wo fr _ hk h;cases h with
 | mk st kn G k l=>cases st<;>exact q _ _ _ _ _ _ _ _ _ (.mk rfl rfl rfl G.lg (le100 (qC G.len (qQ g.le 3)) g.tt (by decide)) (nob λe=>Bool.noConfusion (hk.symm.trans e)))
theorem lp_e{σ:Type}{hp:σ->Hp}{turn:V->σ->(σ->Prop)->Prop}{done:σ->Prop}{lo:Int}{j k:Nat}{s:σ}(e:k=j+1)(q:turn (.int lo) s λs=>Lp hp turn done (.rng (lo+1) j) s):Lp hp turn done (.rng lo k) s:=e▸lp_r q
theorem find0{mem:List UInt8}(ok:j2 o):(b9 ai 1024 (ins o mem)).isSome=true:=by
 cases o with
 | none=>rfl
 | some t=>exact qF Option.isSome (ok t rfl).find0
theorem Fnd.app{w:Wr}{st:gm}{kind:List Nat}{pe:Nat}(F:Fnd w (ms++fp st) s es kind pe):Fnd ⟨w.b,w.rg,w.mem,w.out,st++w.s⟩ ms s es kind pe:=by
 cases F with
 | mk a b c d e f=>exact .mk a b c (by rw[show fp (st++w.s)=fp st++fp w.s from List.map_append,<-List.append_assoc];exact d) e f
theorem rs_(ok:j2 o):∀(rows:List Row) (t j:Nat) (s:Ms) (es:List V) (ms:List (Nat×List UInt8)) (wd:List Nat) (fr:Fr),Go sp t rows s es ms->Fo t fr->Out o ho F W ms (du o rows t s.rg s.mem s.out) ->
  Lp Prod.snd (aU (t639 d) W E) done (.rng t (j+2+rows.length)) (fr,aA (s.sMem (lay o s.mem)) es (au wd 14 (ins o s.mem) ho F))
 | [],t,j,s,es,ms,wd,fr,g,f,q=>by
  by_cases h:Hit o t
  .exact hit_ g h f q
  refine lp_r ?_;refine tn_go f (Decidable.or_iff_not_imp_left.mpr λh0 z=>h ⟨Nat.pos_of_ne_zero h0,z⟩) ok (g.rdy (r:=.bad) rfl trivial) g.I.ra (qI ..) (qC (qN (qS 4 g.tt) 4) (by decide)) (λ_ _ _ z=>absurd rfl z) ?_;exact stp_ g rfl rfl q
 | r::rows,t,j,s,es,ms,wd,fr,g,f,q=>by
  by_cases h:Hit o t
  .exact hit_ g h f q
  rw[jz h] at q;refine lp_r ?_;refine tn_go f (Decidable.or_iff_not_imp_left.mpr λh0 z=>h ⟨Nat.pos_of_ne_zero h0,z⟩) ok (g.rdy (r:=r) rfl (g.ok r (.head _)).1) g.I.ra (qI ..) (qC (qN (qS 4 g.tt) 4) (by decide)) (λs' es' wd' z h=>?_) ?_
  .cases e:r.go s.rg s.mem s.out with
   | stop=>exact absurd e z
   | back =>
    rw[e] at h q;cases h with
    | mk v kn G k l =>
     refine lp_e (j:=j+1+rows.length) (Nat.succ_add ..) ?_;refine tn_hit (t:=t) (s:=((s.sKn kn).sPc 1024).sMem _) (pc:=1024) .b rfl (find0 ok) λn k fr=>?_;exact q _ _ _ _ _ ((s.sKn kn).sPc 1024) _ _ _ (.mk rfl rfl rfl G.lg (le100 (qC G.len (qQ g.le 3)) g.tt (by decide)) ⟨λ_=>rfl,λ_=>⟨rfl,rfl⟩⟩)
   | next rg' mem' out' st =>
    rw[e] at h q;refine nn λno=>?_;obtain⟨g',e1,e2,e3⟩:=g.next e h
    refine no ?_;subst e1 e2 e3;exact rs_ ok rows (t+1) j s' es' _ wd' _ g' .b λn k kind pe wo s es wd fr F=>q n k kind pe wo s es wd fr F.app
  .intro told s' es' wd n k kind pe wo fr e;exact stp_ g (e▸rfl) e q told s' es' wd n k kind pe wo fr e
end
end
section
section
variable {fr:Fr} {L L':Hp} {d:Nat} {hd:Bool} {E:Hd->Fr->Hp->Prop} {n:Hd} {Q:V->Fr->Hp->Prop} {s s':Ms} {es es':List V} {F:Hp} {lg:V} {lo ho:O} {wd told:List Nat} {u t sp:Nat} {o:Option Nat} {ms:List (Nat×List UInt8)} {r:Row} {x:Rs} {rows:List Row} {rg:List Nat} {mem out:List UInt8}
variable {W:Fl->Kn} {done:St->Prop}
theorem rs0{k:Nat}(e:k=50000)(ok:j2 o)(g:Go sp 0 rows s [] [])(q:Out o ho F W [] (du o rows 0 s.rg s.mem s.out)):
  Lp Prod.snd (aU (t639 d) W E) done (.rng ((0:Nat):Int) k) (⟨[(8,.ref (.l 12)),(173,.int 50000)],[]⟩,aA (s.sMem (lay o s.mem)) [] (au wd 14 (ins o s.mem) ho F)):=by
 have l:rows.length<=20:=by have:=g.B.t;rw[Nat.zero_add] at this;exact this
 refine(e).symm▸?_;refine(show 50000=49998 - rows.length+2+rows.length by lia).symm▸?_;exact rs_ ok rows 0 _ s [] [] wd _ g .a q
theorem resume_(ok:j2 o)(g:Go sp 0 rows s [] [])(q:∀n k kind pe wo s' es wd,Fnd (du o rows 0 s.rg s.mem s.out) [] s' es kind pe->Q (.ref (.s n)) fr (aA (s'.sMem (lay o s'.mem)) es (au wd 14 (ins o s'.mem) ho (Evt n k kind pe wo F)))):
  HK (d+16) false (.top 639) [.ref (.l 12),.int 50000] fr (aA (s.sMem (lay o s.mem)) [] (au wd 14 (ins o s.mem) ho F)) Q E:=by
 refine kf rfl ?_;refine eV ?_;refine⟨rfl,?_⟩;refine rs0 rfl ok g λn k kind pe wo s' es wd fr h=>?_;exact q n k kind pe wo s' es wd h
end
end
section
section
variable {fr:Fr} {L L':Hp} {d:Nat} {hd:Bool} {E:Hd->Fr->Hp->Prop} {n:Hd} {Q:V->Fr->Hp->Prop} {s s':Ms} {es es':List V} {F:Hp} {lg:V} {lo ho:O} {wd told:List Nat} {di u t sp:Nat} {o:Option Nat} {ms:List (Nat×List UInt8)} {dc:List (Int×V)} {r:Row} {x:Rs} {rows:List Row} {rg:List Nat} {mem out:List UInt8}
noncomputable def Cf(E:Hd->Fr->Hp->Prop)(fr:Fr)(L:Hp):Prop:=∀(w:List Nat) (n k:Nat),E (.s n) fr ((.s k,.ns [(9,.str w)])::(.s n,.exc 70 (some (.s k)))::L)
theorem cE{w:List Nat}(q:∀n k,Q (.ref (.s n)) fr ((.s k,.ns [(9,.str w)])::(.s n,.exc 70 (some (.s k)))::L)):HK (d+3) hd (.top 70) [.str w] fr L Q E:=by
 refine k_newE rfl rfl rfl (.sym0 λn=>?_);refine dg ?_;refine mc_exi ?_;refine k_exi (.head _) ?_;refine o0 (l:=[]) rfl rfl λk=>?_;exact⟨rfl,q n k⟩
structure Lw where
 alive:Bool
 stop:Option Nat
 text:List UInt8
 low:Nat
 lev:Int
theorem zl:Nonempty Lw:=⟨false,none,[],0,0⟩
noncomputable def Lw.stops(lw:Lw):List V:=match lw.stop with
 | none=>[]
 | some t=>[.int ((1024+t:Nat):Int)]
noncomputable def p_:List UInt8:=[0,1,2,3,4,5,6,7,8,9,10,11,12,13,14,15]
noncomputable def CS:List (Nat×Hd):=[(176,.l 1),(198,.l 2),(47,.l 3),(56,.l 4)]
noncomputable def a_(lw:Lw)(F:Hp):Hp :=
 (.l 22,.inst 506 (.l 23))::(.l 23,.ns [(63,.str []),(18,.int 0),(9,.str []),(48,.ref (.l 12)),(39,.ref (.l 21)),(56,.ref (.l 24)),(68,.int lw.lev),(64,.ref (.l 27)),(73,.ref (.l 28))]) ::
 (.l 24,.inst 506 (.l 25))::(.l 25,.ns [(63,.str []),(18,.int 0),(9,.str []),(57,.ref (.l 26))])::(.l 26,.fn 0 CS)::(.l 27,.fn 1 CS)::(.l 28,.fn 2 CS) ::
 (.l 2,.cell (some (.bool lw.alive)))::(.l 3,.cell (some (.ref (.l 22))))::(.l 4,.cell (some (.ref (.l 33))))::(.l 33,.list lw.stops) ::
 (.l 21,.inst 247 (.l 29))::(.l 29,.ns [(40,.int 1024),(13,.int 1024),(41,.bytes lw.text),(45,.ref (.l 30)),(81,.int 3072),(82,.ref (.l 31)),(83,.ref (.l 32)),(42,.int lw.low)]) ::
 (.l 30,.list [.tup [.int 1536,.bytes p_]])::F
theorem bw{lw:Lw}{p:Hd×O}(h:p∈F):p∈a_ lw F:=.tail _ (.tail _ (.tail _ (.tail _ (.tail _ (.tail _ (.tail _ (.tail _ (.tail _ (.tail _ (.tail _ (.tail _ (.tail _ (.tail _ h)))))))))))))
noncomputable def sa:Nat->List Int->List Nat->List Nat
 | _,[],rg=>rg
 | i,x::r,rg=>sa (i+1) r (rg.set (10+i) (dy x))
theorem sa_rg:∀{ns:List Int} {i:Nat} {rg:List Nat},RG rg->RG (sa i ns rg)
 | [],_,_,h=>h
 | x::r,_,_,h=>sa_rg (ns:=r) (h.set x)
theorem mz{j:Nat}(h:j<10):∀{ns:List Int} {i:Nat} {rg:List Nat},ah (sa i ns rg) j=ah rg j
 | [],_,_=>rfl
 | x::r,i,rg=>(mz h (ns:=r)).trans (cx λe=>absurd (qC (qI 10 i) (qU e)) (Nat.not_le.mpr h))
theorem bC{i w:Int}{k v:Nat}{R:Unit->Fr->Hp->Prop}(c:Chg L n (iU rg) (iU (rg.set k v)) L')(hr:rg.length=32)(h:k<32)(ei:i=(k:Int))(ew:w=(v:Int))(q:R () fr L'):UI (.ref n) (.int i) (.int w) fr L R E:=by
 subst ei ew;exact ks c hr h q
theorem lp_enu{hp:St->Hp}{done:St->Prop}{m:V->Ab Fl}{us:List V}{I:Nat->St->Prop}{Q:Fl->Kn}{E:Hd->Kn}(hm:∀k s,I k s->nU (hp s) (.ref n) us)
  (h:∀(k:Nat) a s Q E (K:St->Prop),us[k]?=some a->I k s->(∀s',I (k+1) s'->K s')->aU m Q E (.tup [.int k,a]) s K) (q:∀s,I us.length s->done s):∀(j k:Nat) (s:St),k+j=us.length->I k s->Lp hp (aU m Q E) done (.enu n k) s
 | 0,k,s,e,i=>.enil (hm k s i) (List.getElem?_eq_none (qU e.symm)) (q s (e▸i))
 | j+1,k,s,e,i=>.econs (hm k s i) (List.getElem?_eq_getElem (e▸Nat.lt_add_of_pos_right (Nat.zero_lt_succ j))) (h k _ s Q E _ (List.getElem?_eq_getElem (e▸Nat.lt_add_of_pos_right (Nat.zero_lt_succ j))) i λs' i'=>lp_enu hm h q j (k+1) s' ((Nat.add_right_comm k 1 j).trans e) i') λ_ h=>h
noncomputable def b138:X:=Zx.K (Zx.A (X.sub (Zx.a (Zx.l 17 593665) 15 1433665) (Zx.B .add (Zx.g 51 942265) (Zx.l 11 196065) 1362265) (Zx.P 2945665)) (Zx.B .band (Zx.l 26 536265) (Zx.g 52 1130565) 1880265) 5045665) Zx.Z
variable {ns:List Int} {lw:Lw} {k0:Nat}
structure ArI (nl:Hd) (ns:List Int) (s:Ms) (lg:V) (lo:O) (F:Hp) (k0:Int) (k:Nat) (x:St):Prop where
 hp:∃rg,RG rg/\x.2=am (s.sRg rg) lg lo F/\sa k (ns.drop k) rg=sa 0 ns s.rg
 tl:∃r,x.1=⟨(47,.ref (.l 22))::(12,.int 1028)::(35,.ref nl)::(17,.ref (.l 5))::(49,.int k0)::r,[]⟩
 fr:∀u v,(x.1.set 11 u).set 26 v=⟨[(47,.ref (.l 22)),(12,.int 1028),(35,.ref nl),(17,.ref (.l 5)),(49,.int k0),(11,u),(26,v)],[]⟩
theorem leadIn(m:(n,O.list (ns.map V.int))∈F)(hn:ns.length<=8)(hr:RG s.rg)(hk:(((ah s.rg 2:Nat):Int) - 64) / 16*16=(k0:Int))
  (q:Q (.int k0) fr (am ((s.sRg (((sa 0 ns s.rg).set 1 1024).set 2 k0)).sPc 1028) lg lo (au wd di dc ho (a_ lw F)))) :
  HK (d+1) hd (.top 138) [.ref (.l 22),.int 1028,.ref n] fr (am s lg lo (au wd di dc ho (a_ lw F))) Q E:=by
 exists m hn hr hk q,zF fr,zN d,zB hd,aK E,zh n,aK Q,zm s,zL F,zv lg,zo lo,zo ho,zL wd,zN di,zL dc,zL ns,zl lw,zN k0;refine kf rfl ?_;refine b6 (i:=2) (a9 rfl) hr.len (by decide) ?_;refine lp_enu (us:=ns.map V.int) (I:=ArI n ns s lg lo (au wd di dc ho (a_ lw F)) ((((ah s.rg 2:Nat):Int) - 64) / 16*16)) (λk x i=>?_) (λk a x Q E K ha i q=>?_) (λx i=>?_) (ns.map V.int).length 0 _ (Nat.zero_add _) ⟨⟨s.rg,hr,rfl,rfl⟩,⟨_,rfl⟩,λ_ _=>rfl⟩
 .obtain⟨rg,h1,h2,h3⟩:=i.hp;show(n,O.list (ns.map V.int))∈x.2;exact h2▸av (ao (bw m))
 .obtain⟨⟨rg,h1,h2,h3⟩,_,h4⟩:=i;obtain⟨fr,L⟩:=x;subst h2;obtain⟨y,hy,rfl⟩:∃y,ns[k]?=some y/\a=.int y:=by rw[List.getElem?_map] at ha;cases e:ns[k]? with|none=>rw[e] at ha;cases ha|some y=>rw[e] at ha;cases ha;exact⟨y,rfl,rfl⟩
  have hk8:k<ns.length:=(List.getElem?_eq_some_iff.mp hy).1;refine(show ∀f,f=_->(wp d b138 hd).stms f (am (s.sRg rg) lg lo (au wd di dc ho (a_ lw F))) (λf fr L=>match f with|.next=>K (fr,L)|f=>Q f fr L) E from λf e=>e▸?_) _ (h4 _ _);refine bC (k:=10+k) (v:=dy y) (aa rfl) h1.len (qL (Nat.add_lt_add_left (qL hk8 hn) 10) (by decide)) rfl (bN y) ?_;exact q _ ⟨⟨_,h1.set y,rfl,by rw[<-h3,List.drop_eq_getElem_cons hk8,(List.getElem?_eq_some_iff.mp hy).2];rfl⟩,⟨_,rfl⟩,λ_ _=>rfl⟩
 .obtain⟨⟨rg,h1,h2,h3⟩,⟨r,h4⟩,_⟩:=i;obtain⟨fr',L⟩:=x;subst h2;subst h4;rw[qG,List.drop_length] at h3;refine bC (k:=1) (v:=1024) (aa rfl) h1.len (by decide) rfl rfl ?_;refine bC (rg:=rg.set 1 1024) (k:=2) (v:=k0) (aa rfl) (List.length_set.trans h1.len) (by decide) rfl hk ?_;rw[<-h3] at q;exact(show Q (.int ((((ah s.rg 2:Nat):Int) - 64) / 16*16)) fr _ from hk▸q)
end
end
section
section
variable {fr:Fr} {L L':Hp} {d:Nat} {hd:Bool} {E:Hd->Fr->Hp->Prop} {n:Hd} {Q:V->Fr->Hp->Prop} {s s' s0:Ms} {es es':List V} {F:Hp} {lg lg0:V} {lo ho:O} {wd told:List Nat} {di u t sp fl:Nat} {o:Option Nat} {ms:List (Nat×List UInt8)} {dc:List (Int×V)} {r:Row} {x:Rs} {rows:List Row} {rg:List Nat} {mem out:List UInt8} {lw:Lw}
variable {W:Fl->Kn} {done:St->Prop}
noncomputable def kept(s:Ms)(lg:V)(F:Hp):Hp:=(.l 16,.inst 115 (.l 17))::(.l 17,.ns [(15,.ref (.l 18)),(18,.int s.pc),(19,.bool s.dn),(20,.int s.st),(21,lg)])::(.l 18,iU s.rg)::F
noncomputable def bd(F:Hp):Hp:=(.l 16,.hole)::(.l 17,.hole)::(.l 18,.hole)::F
theorem kW{p:Hd×O}(h:p∈F):p∈kept s lg F:=.tail _ (.tail _ (.tail _ h))
theorem keep_(hr:s.rg.length=32)(q:Q (.ref (.l 16)) fr (am s lg lo (au wd di dc ho (a_ lw (kept s lg F))))):
  HK (d+2) hd (.top 115) [.ref (.l 5)] fr (am s lg lo (au wd di dc ho (a_ lw (bd F)))) Q E:=by
 refine fE rfl rfl (.fix 17 (aa rfl) (.fix 16 (aa rfl) ?_));refine dg ?_;refine gW (a9 rfl) (by rw[qG,hr];decide) (.fix 18 (aa rfl) ?_);exact⟨rfl,q⟩
inductive LR:List V->List (Nat×List UInt8)->Prop
 | nil:LR [] []
 | m {l ms u w}:LR l ms->LR (mE u w::l) ((u,w)::ms)
 | o {l ms s r}:LR l ms->aF s [109]=false->LR (.tup (.str s::r)::l) ms
theorem LG.rev(G:LG es ms):LR es.reverse ms.reverse:=by
 induction G with
 | nil=>exact .nil
 | m _ ih=>rw[List.reverse_append,List.reverse_append];exact .m ih
 | o _ h ih=>rw[List.reverse_append];exact .o ih h
noncomputable def bk(fl sp:Nat):List (Nat×List UInt8)->List UInt8->List UInt8
 | [],m=>m
 | (u,w)::r,m=>bk fl sp r (if fl<=1024+u/\1024+u<sp then ay m u w else m)
noncomputable def MsOk(ms:List (Nat×List UInt8)):Prop:=∀x∈ms,x.1+4<=3072/\x.2.length=4
noncomputable def b112:X:=Zx.K (Zx.I (X.bop true (Zx.K (Zx.C (X.sub (Zx.l 22 262542) (Zx.n 0 97342) (Zx.P 514542)) .eq (Zx.s 1 269542) 1102542) (Zx.K (X.cmp2 (Zx.l 23 443142) .le (X.sub (Zx.l 22 281442) (Zx.n 1 116242) (Zx.P 533442)) .lt (X.sub (Zx.a (Zx.l 8 371742) 15 1211742) (Zx.g 24 970242) (Zx.P 2303742)) (Zx.P 3803142)) Zx.Z)) (Zx.P 5302542)) (Zx.K (Zx.e (Zx.m (Zx.l 17 599243) 25 (Zx.K (X.sub (Zx.l 22 272343) (Zx.n 1 107143) (Zx.P 524343)) (Zx.K (X.sub (Zx.l 22 277943) (Zx.n 2 112743) (Zx.P 529943)) Zx.Z)) 1019243 2363243) 2363243) Zx.Z) Zx.Z 13448442) Zx.Z
noncomputable def t112(d:Nat)(hd:Bool)(v:V):Ab Fl:=((wp d (Zx.l 22 260441) hd).asg v).bind λ_=>(wp d b112 hd).stms
structure BbF (fl:Nat) (fr:Fr):Prop where
 tl:∃r,fr=⟨(8,.ref (.l 16))::(17,.ref (.l 5))::(23,.int fl)::r,[]⟩
 fr:∀v,fr.set 22 v=⟨[(8,.ref (.l 16)),(17,.ref (.l 5)),(23,.int fl),(22,v)],[]⟩
noncomputable abbrev bF(fl:Nat)(v:V):Fr:=⟨[(8,.ref (.l 16)),(17,.ref (.l 5)),(23,.int fl),(22,v)],[]⟩
theorem bb_m{K:St->Prop}{w:List UInt8}{fr:Fr}(f:BbF fl fr)(h0:s0.rg.length=32)(hm:s.mem.length=3072)(hu:u+4<=3072)(hw:w.length=4)
  (q:K (bF fl (mE u w),am (s.sMem (if fl<=1024+u/\1024+u<ah s0.rg 2 then ay s.mem u w else s.mem)) lg lo (au wd di dc ho (a_ lw (kept s0 lg0 F))))) :
  aU (t112 (d+2) hd) W E (mE u w) (fr,am s lg lo (au wd di dc ho (a_ lw (kept s0 lg0 F)))) K:=by
 exists f h0 hm hu hw q,zN d,zB hd,aK E,zm s,zm s0,zL F,zv lg,zv lg0,zo lo,zo ho,zL wd,zN di,zN u,zN fl,zL dc,zl lw,aK W,zp1 K,zL w,zF fr;refine(show ∀f,f=_->(wp (d+2) b112 hd).stms f (am s lg lo (au wd di dc ho (a_ lw (kept s0 lg0 F)))) (λf fr L=>match f with|.next=>K (fr,L)|f=>W f fr L) E from λf e=>e▸?_) _ (f.fr _);by_cases c1:fl<=1024+u
 .refine aJ (decide_eq_true (Int.ofNat_le.mpr c1)) ?_;refine b6 (i:=2) (a9 rfl) h0 (by decide) ?_;by_cases c2:1024+u<ah s0.rg 2
  .refine aJ (lU (Int.ofNat_lt.mpr c2)) ?_;rw[if_pos ⟨c1,c2⟩] at q;refine load hm (.nat (hw.symm▸hu)) ?_;exact q
  .refine aB (decide_eq_false λz=>c2 (Int.ofNat_lt.mp z)) ?_;rw[if_neg λz=>c2 z.2] at q;exact q
 .refine aB (decide_eq_false λz=>c1 (Int.ofNat_le.mp z)) ?_;rw[if_neg λz=>c1 z.1] at q;exact q
theorem bb_o{K:St->Prop}{ws:List Nat}{v:List V}{fr:Fr}(f:BbF fl fr)(h:aF ws [109]=false)(q:K (bF fl (.tup (.str ws::v)),L)):aU (t112 d hd) W E (.tup (.str ws::v)) (fr,L) K:=by
 refine(show ∀f,f=_->(wp d b112 hd).stms f L (λf fr L=>match f with|.next=>K (fr,L)|f=>W f fr L) E from λf e=>e▸?_) _ (f.fr _);refine aB h ?_;exact q
theorem BbF.of{v:V}:BbF fl (bF fl v):=⟨⟨_,rfl⟩,λ_=>rfl⟩
theorem bb_{us:List V}(h0:s0.rg.length=32)(m:(n,O.list us)∈F)(q:∀fr mem,BbF fl fr->mem=bk fl (ah s0.rg 2) ms s.mem->mem.length=3072->done (fr,am (s.sMem mem) lg lo (au wd di dc ho (a_ lw (kept s0 lg0 F))))):
  ∀{rest:List V} {ms':List (Nat×List UInt8)},LR rest ms'->∀(k:Nat) (mem:List UInt8) (fr:Fr),us.drop k=rest->MsOk ms'->mem.length=3072->BbF fl fr->bk fl (ah s0.rg 2) ms' mem=bk fl (ah s0.rg 2) ms s.mem ->
  Lp Prod.snd (aU (t112 (d+2) hd) W E) done (.lst n k) (fr,am (s.sMem mem) lg lo (au wd di dc ho (a_ lw (kept s0 lg0 F)))):=by
 have mm:∀mem,(n,O.list us)∈am (s.sMem mem) lg lo (au wd di dc ho (a_ lw (kept s0 lg0 F))):=λmem=>av (ao (bw (kW m)));have hd':∀{k:Nat} {x:V} {r:List V},us.drop k=x::r->us[k]?=some x/\us.drop (k+1)=r:=λe=>⟨by rw[<-List.head?_drop,e];rfl,by rw[<-List.tail_drop,e];rfl⟩;intro rest ms' R
 induction R with
 | nil=>exact λk mem fr e ok hm f eb=>.nil (mm mem) (by rw[<-List.head?_drop,e];rfl) (q fr mem f eb hm)
 | @m l ms' u w R ih =>
  intro k mem fr e ok hm f eb;refine aI (mm mem) (hd' e).1 ?_;have o:=ok _ (.head _);refine bb_m (s:=s.sMem mem) f h0 hm o.1 o.2 ?_;refine ih (k+1) _ _ (hd' e).2 (λx hx=>ok x (.tail _ hx)) ?_ .of eb;split
  .exact(b8 (by rw[o.2];exact hm▸o.1)).trans hm
  .exact hm
 | @o l ms' ws r R hs ih =>
  intro k mem fr e ok hm f eb;refine aI (mm mem) (hd' e).1 ?_;refine bb_o f hs ?_;exact ih (k+1) _ _ (hd' e).2 ok hm .of eb
theorem i0{α β:Type}{o:Option β}{v:β}{m:Ab α}{f:β->Ab α}{Q:α->Kn}(e:o=some v)(q:f v fr L Q E):aD o m f fr L Q E:=e▸q
theorem lp_t0{hp:St->Hp}{done:St->Prop}{m:V->Ab Fl}{I:Nat->St->Prop}{Q:Fl->Kn}{E:Hd->Kn}{n:Nat}{s:St}(i:I 0 s)(h:∀(k:Nat) s Q E (K:St->Prop),k<n->I k s->(∀s',I (k+1) s'->K s')->aU m Q E (.int k) s K)(q:∀s,I n s->done s):Lp hp (aU m Q E) done (.rng 0 n) s :=
 lp_t (x:=0) (λk s Q E K hk i q=>(Int.zero_add (k:Int)).symm▸h k s Q E K hk i q) q n 0 s (Nat.zero_add n) i
theorem f_lenR{rg:List Nat}(m:(n,iU rg)∈L)(h:rg.length=32)(q:Q (.int 32) fr L):HK d hd (.bi 0) [.ref n] fr L Q E:=by
 have e:(rg.map λ(x:Nat)=>V.int (x:Int)).length=32:=(qG _).trans h;refine gh m (e▸by decide) ?_;refine(e).symm▸?_;exact q
structure RgI (s0 s:Ms) (lg0 lg:V) (lo:O) (T:Hp->Hp) (F:Hp) (fl k:Nat) (x:St):Prop where
 hp:∃rg,rg.length=32/\rg.take k=s0.rg.take k/\x.2=am (s.sRg rg) lg lo (T (kept s0 lg0 F))
 tl:∃r,x.1=⟨(8,.ref (.l 16))::(17,.ref (.l 5))::(23,.int fl)::r,[]⟩
theorem qp(h0:s0.rg.length=32)(hr:s.rg.length=32)(hm:s.mem.length=3072)(G:LG es ms)(hl:es.length<=1000)(ok:MsOk ms)
  (q:∀n,Q .non fr (am ⟨s0.rg,bk fl (ah s0.rg 2) ms.reverse s.mem,s0.pc,s0.st,s0.dn,s.out,s.kn⟩ lg0 (.list es) (au wd di dc ho (a_ lw (kept s0 lg0 ((.s n,.list es.reverse)::F)))))) :
  HK (d+3) hd (.top 112) [.ref (.l 16),.ref (.l 5),.int fl] fr (aA s es (au wd di dc ho (a_ lw (kept s0 lg0 F)))) Q E:=by
 exists h0 hr hm G hl ok q,zF fr,zN d,zB hd,aK E,aK Q,zm s,zm s0,zL es,zL F,zv lg0,zo ho,zL wd,zN di,zN fl,zL ms,zL dc,zl lw;refine kf rfl ?_;refine z_rev (a9 rfl) (qC hl (by decide)) (.sym (aA s es (au wd di dc ho (a_ lw (kept s0 lg0 [])))) F rfl λn=>?_);refine bb_ (us:=es.reverse) h0 (.head _) (λfr' mem f em hm'=>?_) G.rev 0 s.mem _ rfl (λx hx=>ok x (List.mem_reverse.mp hx)) hm ⟨⟨_,rfl⟩,λ_=>rfl⟩ rfl;subst em;obtain⟨r,rfl⟩:=f.tl;refine f_lenR (a9 rfl) h0 ?_;refine eV ?_;refine⟨rfl,?_⟩;refine lp_t0 (n:=32) (I:=RgI s0 (s.sMem (bk fl (ah s0.rg 2) ms.reverse s.mem)) lg0 lg0 (.list es) (λF=>au wd di dc ho (a_ lw F)) ((.s n,.list es.reverse)::F) fl) ⟨⟨s.rg,hr,rfl,rfl⟩,⟨_,rfl⟩⟩ (λk x Q E K hk i q=>?_) (λx i=>?_)
 .obtain⟨fr,L⟩:=x;obtain⟨⟨rg,h1,h2,h3⟩,⟨r,h4⟩⟩:=i;subst h3;subst h4;refine i0 (c6 26 26 _ r) ?_;refine b6 (rg:=s0.rg) (a9 rfl) h0 hk ?_;refine i0 (c6 26 26 _ r) ?_;refine ks (rg:=rg) (aa rfl) h1 hk ?_;exact q _ ⟨⟨_,List.length_set.trans h1,kx (h1.symm▸hk) h2 (dP (h0.symm▸hk)),rfl⟩,⟨_,rfl⟩⟩
 .obtain⟨fr',L⟩:=x;obtain⟨⟨rg,h1,h2,h3⟩,⟨r,h4⟩⟩:=i;subst h3;subst h4;have e:=j9 h1 h0 h2;subst e;exact q n
theorem objEnd(hl:lw.text.length<=1000)(q:Q (.int ((max (max (1024+lw.text.length) lw.low) 1552:Nat):Int)) fr (am s lg lo (au wd di dc ho (a_ lw F)))):
  HK (d+1) hd (.top 131) [.ref (.l 21)] fr (am s lg lo (au wd di dc ho (a_ lw F))) Q E:=by
 exists hl q,zF fr,zN d,zB hd,aK E,aK Q,zm s,zL F,zv lg,zo lo,zo ho,zL wd,zN di,zL dc,zl lw;refine .dw (kf rfl ?_);refine dI (qC hl (by decide)) ?_;refine .sym0 λn=>?_;refine aI (.tail _ (a9 rfl)) rfl ?_;refine bM (.head _) ?_;refine dI (bs:=p_) (by decide) ?_;refine cb ⟨[],_,rfl,rfl⟩ (show 2<=1000000 by decide) ?_;refine .nil (.tail _ (a9 rfl)) rfl ?_;refine f_maxL (i:=((1024+lw.text.length:Nat):Int)) (is:=[(lw.low:Int),((1552:Nat):Int)]) (.head _) ?_;refine⟨_,.cons _ (.refl _),?_⟩;rw[show [(lw.low:Int),((1552:Nat):Int)].foldl max ((1024+lw.text.length:Nat):Int)=_ from(qF (max · ((1552:Nat):Int)) fu).trans fu];exact q
end
end
section
section
variable {fr:Fr} {L L':Hp} {d:Nat} {hd:Bool} {E:Hd->Fr->Hp->Prop} {n nl:Hd} {Q:V->Fr->Hp->Prop} {s s' s0:Ms} {es es':List V} {F:Hp} {lg lg0:V} {lo ho:O} {wd told:List Nat} {di u t sp fl k0:Nat} {o:Option Nat} {ms:List (Nat×List UInt8)} {dc:List (Int×V)} {r:Row} {x:Rs} {rows:List Row} {rg:List Nat} {mem out:List UInt8} {lw:Lw} {ns:List Int}
theorem Rel.perm{y:Y}(R:Rel y L)(s:List.Perm L' L):Rel y L':=⟨R.up,R.fin,R.inj,R.sub,R.new,R.lt,(s.pairwise_iff λh=>h.symm).mpr R.keys,λn o m=>R.obj n o (s.subset m)⟩
noncomputable def Wn.perm{g:G}(w:Wn g fr L)(s:List.Perm L' L):Wn g fr L':=⟨w.y,w.now.at',w.now.rel.perm s,w.now.fr',w.now.stk⟩
noncomputable def Dp{α:Type}(Q:α->Fr->Hp->Prop)(v:α)(fr:Fr)(L:Hp):Prop:=∃L',List.Perm L' L/\Q v fr L'
theorem Fz.dp{g:G}{w:Wn g fr L}(z:Fz VRel w Q E):∃z':Fz VRel w (Dp Q) (Dp E),z'.P=z.P/\z'.X=z.X :=
 ⟨.mk z.P z.X ⟨λw' a b l r ⟨L',s,q⟩=>z.ok (w'.perm s) a b l r q,λw' n e l x ⟨L',s,q⟩=>z.ex (w'.perm s) n e l x q⟩,rfl,rfl⟩
theorem HK.dp{f:V}{us:List V}(h:HK d hd f us fr L (Dp Q) (Dp E)):HK d hd f us fr L Q E:=λg w gv vs e1 e2 r rs z=>z.dp.elim λz' e=>e.1▸e.2▸h w e1 e2 r rs z'
theorem dp0{α:Type}{Q:α->Fr->Hp->Prop}{v:α}(q:Q v fr L):Dp Q v fr L:=⟨L,.refl _,q⟩
theorem places_(q:∀k,Q (.ref (.s k)) fr (am s lg lo (au wd di dc ho (a_ lw ((.s k,.list lw.stops)::F))))):HK (d+2) hd (.ref (.l 26)) [] fr (am s lg lo (au wd di dc ho (a_ lw F))) Q E:=by
 refine k_in (a9 rfl) ?_;refine gW (as:=lw.stops) (a9 rfl) ?_ (.sym (am s lg lo (au wd di dc ho (a_ lw []))) F rfl λk=>?_)
 .unfold Lw.stops;cases lw.stop<;>exact r9 rfl
 .exact q k
theorem stops_eq:lw.stops++[.int 1024]=hZ lw.stop:=by unfold Lw.stops;cases lw.stop<;>rfl
structure Lft (w:Wr) (s:Ms) (es:List V):Prop where
 rg:s.rg=w.rg
 mem:s.mem=w.mem
 out:s.out=w.out
 G:LG es (fp w.s)
 l:es.length<=100
noncomputable abbrev s1(s:Ms)(ns:List Int)(k0:Nat):Ms:=(s.sRg (((sa 0 ns s.rg).set 1 1024).set 2 k0)).sPc 1028
noncomputable def Cg(E:Hd->Fr->Hp->Prop)(fr:Fr)(A F:Hp):Prop:=∀(w:List Nat) (n k:Nat),E (.s n) fr (A++((.s k,.ns [(9,.str w)])::(.s n,.exc 70 (some (.s k)))::F))
theorem ran_{w:Wr}{P F0:Hp}(eF:F=P++F0)(hn:ns.length<=8)(m:(nl,O.list (ns.map V.int))∈F)(hr:RG s.rg)(hk:(((ah s.rg 2:Nat):Int) - 64) / 16*16=(k0:Int))(ok:j2 lw.stop)(g:Go k0 0 rows (s1 s ns k0) [] [])
  (ew:w=du lw.stop rows 0 (s1 s ns k0).rg s.mem s.out) (hw:w.rg.length=32) (hwm:w.mem.length=3072)
  (q1:w.b=true->ah w.rg 2=k0->∀s' es wd,Lft w s' es->Q (.int (ah w.rg 10)) fr (aA s' es (au wd 15 (ins lw.stop s'.mem) (.dict []) (a_ lw F))))
  (q2:¬(w.b=true/\ah w.rg 2=k0)->∀s' es wd,Lft w s' es->Cg E fr (aA s' es (au wd 15 (ins lw.stop s'.mem) (.dict []) (a_ lw P))) F0) :
  HK (d+17) false (.top 145) [.ref (.l 22),.int 1028,.ref nl] fr (aA s [] (au wd 14 [] .hole (a_ lw F))) Q E:=by
 exists eF hn m hr hk ok g ew hw hwm q1 q2,zF fr,zN d,aK E,zh nl,aK Q,zm s,zL F,zL wd,zN k0,zL rows,zl lw,zL ns,zR w,zL P,zL F0;refine .dp (.dw (kf rfl ?_));refine leadIn m hn hr hk ?_;refine places_ λn1=>?_;refine .sym (aA (s1 s ns k0) [] (au wd 14 [] .hole (a_ lw []))) _ rfl λn2=>?_;refine ju (x:=lw.stops) (z:=[.int 1024]) (av (ao (bw (.tail _ (.head _))))) (av (ao (bw (.head _)))) ?_ (.sym (aA (s1 s ns k0) [] (au wd 14 [] .hole (a_ lw []))) _ rfl λn3=>?_)
 .unfold Lw.stops;cases lw.stop<;>exact r9 rfl
 refine(stops_eq).symm▸?_;refine insert_ ok g.hm (bw (.head _)) ?_;refine resume_ ok g λn k kind pe wo s' es wd h=>?_;cases h with
 | mk a b c G l e =>
  rw[<-show w=du lw.stop rows 0 (s1 s ns k0).rg (s1 s ns k0).mem (s1 s ns k0).out from ew] at a b c G e;have f:Lft w s' es:=⟨a,b,c,G,l⟩;refine remove_ ok (b▸hwm) ?_;have sub:∀(T:Hp),List.Sublist (T++aA s' es (au wd 15 (ins lw.stop s'.mem) (.dict []) (a_ lw F))) (T++aA s' es (au wd 15 (ins lw.stop s'.mem) (.dict []) (Evt n k kind pe wo (a_ lw ((.s n3,.list (hZ lw.stop))::(.s n2,.list [.int 1024])::(.s n1,.list lw.stops)::F))))):=λT =>
   List.Sublist.append_left (List.Sublist.append_left (l:=aA s' es (au wd 15 (ins lw.stop s'.mem) (.dict []) [])) (.cons _ (.cons _ (List.Sublist.append_left (l:=a_ lw []) (.cons _ (.cons _ (.cons _ (.refl _))))))) ) T
  have per:∀(a b:Hd×O),List.Perm (aA s' es (au wd 15 (ins lw.stop s'.mem) (.dict []) (a_ lw P))++(a::b::F0)) (a::b::aA s' es (au wd 15 (ins lw.stop s'.mem) (.dict []) (a_ lw F))):=λa b=>eF▸(qP [a,b] (aA s' es (au wd 15 (ins lw.stop s'.mem) (.dict []) (a_ lw P))) F0).symm;refine gc (.inst (av (ao (.head _))) (av (ao (.tail _ (.head _)))) rfl) rfl ?_;cases hk:aF kind d7 with
  | true =>
   refine aJ hk ?_;refine gc (.inst (av (ao (.head _))) (av (ao (.tail _ (.head _)))) rfl) rfl ?_;by_cases p:pe=1024
   .refine aJ (bj (qF Int.ofNat p)) ?_;refine b6 (i:=2) (a9 rfl) (a▸hw) (by decide) ?_;have wb:=e.mp ⟨hk,p⟩;by_cases hs:ah s'.rg 2=k0
    .refine aB (qF not (bj (qF Int.ofNat hs))) ?_;refine b6 (i:=10) (a9 rfl) (a▸hw) (by decide) ?_;have q:=q1 wb (a▸hs) s' es wd f;rw[<-a] at q;exact⟨_,sub [],dp0 q⟩
    .refine aJ (qF not (bB λz=>hs (Int.ofNat.inj z))) ?_;refine cE λn k=>?_;exact⟨_,_,_,rfl,.tail _ (.head _),_,sub [_,_],_,per _ _,q2 (λz=>hs (a▸z.2)) _ _ _ f _ _ _⟩
   .have hp:ai (pe:Int) 1024=false:=bB λz=>p (Int.ofNat.inj z);refine aB hp ?_;refine aJ (qF not hp) ?_;refine cE λn k=>?_;exact⟨_,_,_,rfl,.tail _ (.head _),_,sub [_,_],_,per _ _,q2 (λz=>p (e.mpr z.1).2) _ _ _ f _ _ _⟩
  | false =>
   refine aB hk ?_;refine aJ (qF not hk) ?_;refine cE λn k=>?_;exact⟨_,_,_,rfl,.tail _ (.head _),_,sub [_,_],_,per _ _,q2 (λz=>Bool.noConfusion (hk.symm.trans (e.mpr z.1).1)) _ _ _ f _ _ _⟩
end
end
section
section
variable {u t k sp fl n:Nat} {o:Option Nat} {r:Row} {rows:List Row} {rg:List Nat} {A m m' mem mem' out v w:List UInt8} {s:gm}
theorem kN:ay (A++m) (A.length+t) w=A++ay m t w:=by
 show(A++m).take (A.length+t)++(w++(A++m).drop (A.length+t+w.length))=A++(m.take t++(w++m.drop (t+w.length)));rw[List.take_length_add_append,Nat.add_assoc,List.drop_length_add_append,List.append_assoc]
theorem kM(h:u+v.length<=m.length)(f:t+w.length<=u):ay (ay m u v) t w=ay (ay m t w) u v:=by
 have ht:t<=m.length:=qC (qI _ _) (qC f (qC (qI _ _) h));obtain⟨k,rfl⟩:=Nat.exists_eq_add_of_le (qC (qI _ _) f);have hk:w.length<=k:=Nat.le_of_add_le_add_left f;have e:∀{j:Nat} {x:List UInt8},ay m (t+j) x=m.take t++ay (m.drop t) j x:=λ{j x}=>by
  have:=kN (A:=m.take t) (m:=m.drop t) (t:=j) (w:=x);rw[List.take_append_drop,List.length_take,Nat.min_eq_left ht] at this;exact this
 have e2:∀{D:List UInt8} {j:Nat} {x:List UInt8},ay (m.take t++D) (t+j) x=m.take t++ay D j x:=λ{D j x}=>by
  have:=kN (A:=m.take t) (m:=D) (t:=j) (w:=x);rw[List.length_take,Nat.min_eq_left ht] at this;exact this
 rw[e,show ay (m.take t++_) t w=_ from e2 (j:=0),show ay m t w=_ from e (j:=0),e2]
 congr 1
 exact jg (by rw[List.length_drop];exact Nat.le_sub_of_add_le (Nat.add_comm k t▸qC (qI _ _) h)) hk
inductive Ch:List UInt8->gm->List UInt8->Prop
 | nil {m:List UInt8}:Ch m [] m
 | cons {u:Nat} {n:List UInt8} {s:gm} {m m':List UInt8} (h:n.length=4) (al:u % 4=0) (lo:512<=u) (hi:u+4<=3072) (c:Ch (ay m u n) s m'):Ch m ((u,aw m u 4,n)::s) m'
theorem Ch.sw(w:Sw m mem s){s':gm}(c:Ch mem s' m'):Ch m (s++s') m':=by
 cases w with
 | no=>exact c
 | st h al lo hi=>exact .cons h al lo hi c
theorem jy:∀(rows:List Row) (t:Nat) (rg:List Nat) (mem out:List UInt8),Bd sp (t+rows.length)->(∀r∈rows,r.ok/\r.dr)->Iv sp t rg->mem.length=3072->RG (du o rows t rg mem out).rg/\Ch mem (du o rows t rg mem out).s (du o rows t rg mem out).mem/\(du o rows t rg mem out).out.length<=out.length+rows.length
 | [],t,rg,mem,out,_,_,I,_=>⟨I.hr,.nil,qW _⟩
 | r::rows,t,rg,mem,out,B,hr,I,hm=>by
  have stay:RG rg/\Ch mem [] mem/\out.length<=out.length+(r::rows).length:=⟨I.hr,.nil,qI ..⟩;by_cases h:Hit o t
  .rw[hO h];exact stay
  .have z:=Row.safe (mem:=mem) (out:=out) ⟨B.lo,B.hi,qC (qI t _) B.t⟩ (hr r (.head _)).1 (hr r (.head _)).2 I;refine(jz h).symm▸?_;cases e:r.go rg mem out with
   | stop=>exact stay
   | back=>exact stay
   | next rg' mem' out' s =>
    have z:=(e)▸z;have y:=jy rows (t+1) rg' mem' out' ⟨B.lo,B.hi,Nat.add_right_comm t 1 _▸B.t⟩ (λr' m=>hr r' (.tail _ m)) z.1 (z.2.1.len hm);exact⟨y.1,.sw z.2.1 y.2.1,qC y.2.2 (Nat.add_right_comm out.length rows.length 1▸qQ z.2.2 _)⟩
noncomputable abbrev Rch(fl sp u:Nat):Prop:=fl<=1024+u/\1024+u<sp
noncomputable def fw(fl sp:Nat):List UInt8->gm->List UInt8
 | m,[]=>m
 | m,(u,_,n)::s=>fw fl sp (if Rch fl sp u then m else ay m u n) s
theorem Ch.ms(h:Ch m s m')(hm:m.length=3072):MsOk (fp s)/\m'.length=3072:=by
 induction h with
 | nil=>exact⟨nofun,hm⟩
 | cons h al lo hi c ih =>
  have z:=ih ((b8 (hm▸h▸hi)).trans hm);exact⟨λx hx=>by
   cases hx with
   | head=>exact⟨hi,aQ (hm▸hi)⟩
   | tail _ hx=>exact z.1 x hx,z.2⟩
theorem bk_app{x:Nat×List UInt8}:∀{l:List (Nat×List UInt8)} {m:List UInt8},bk fl sp (l++[x]) m=bk fl sp [x] (bk fl sp l m)
 | [],_=>rfl
 | (u,w)::r,m=>bk_app (l:=r)
structure Far (fl sp u:Nat) (n m:List UInt8) (s:gm):Prop where
 e:fw fl sp (ay m u n) s=ay (fw fl sp m s) u n
 g:aw (fw fl sp m s) u 4=aw m u 4
 l:(fw fl sp m s).length=3072
theorem fw_far(al:u % 4=0)(hr:Rch fl sp u)(hi:u+4<=3072){n:List UInt8}(hn:n.length=4)(c:Ch mem s m'):∀{m:List UInt8},m.length=3072->Far fl sp u n m s:=by
 induction c with
 | nil=>exact λhm=>⟨rfl,rfl,hm⟩
 | @cons c w s m1 m' h al' lo hi' _ ih =>
  intro m hm;by_cases z:Rch fl sp c
  .have y:=ih hm;exact⟨by unfold fw;rw[if_pos z,if_pos z];exact y.e,by unfold fw;rw[if_pos z];exact y.g,by unfold fw;rw[if_pos z];exact y.l⟩
  .have y:=ih ((b8 (w:=w) (hm▸h▸hi')).trans hm);have a:=iO al al' λe=>z (e▸hr);have c1:ay (ay m u n) c w=ay (ay m c w) u n:=a.elim (λa=>(kM (hm▸h▸hi') (hn▸a)).symm) λa=>kM (hm▸hn▸hi) (h▸a);have c2:aw (ay m c w) u 4=aw m u 4:=a.elim (λa=>cy (hm▸qC (qI _ _) hi') a) λa=>bV (hm▸qC (qI _ _) hi') (h▸a);exact⟨by unfold fw;rw[if_neg z,if_neg z,c1];exact y.e,by unfold fw;rw[if_neg z];exact y.g.trans c2,by unfold fw;rw[if_neg z];exact y.l⟩
theorem bk_fw(c:Ch m s m')(hm:m.length=3072):bk fl sp (fp s).reverse m'=fw fl sp m s:=by
 induction c with
 | nil=>rfl
 | @cons u n s m m' h al lo hi c ih =>
  have e:=ih ((b8 (w:=n) (hm▸h▸hi)).trans hm);refine(?_:bk fl sp (((u,aw m u 4)::fp s).reverse) m'=fw fl sp (if Rch fl sp u then m else ay m u n) s);rw[List.reverse_cons,bk_app,e];refine(?_:(if Rch fl sp u then ay (fw fl sp (ay m u n) s) u (aw m u 4) else fw fl sp (ay m u n) s)=_);by_cases z:Rch fl sp u
  .rw[if_pos z,if_pos z];have y:=fw_far al z hi h c hm;have l4:(aw m u 4).length=n.length:=(aQ (hm▸hi)).trans h.symm;rw[y.e,cq (y.l▸qC (qI _ _) hi) l4,<-y.g];exact cS (y.l▸hi)
  .rw[if_neg z,if_neg z]
end
end
section
section
variable {fr:Fr} {L L':Hp} {d:Nat} {hd:Bool} {E:Hd->Fr->Hp->Prop} {n nl:Hd} {Q:V->Fr->Hp->Prop} {s s' s0:Ms} {es es':List V} {F:Hp} {lg lg0:V} {lo ho:O} {wd told:List Nat} {di u t sp fl k0:Nat} {o:Option Nat} {ms:List (Nat×List UInt8)} {dc:List (Int×V)} {lw:Lw} {ns:List Int} {code:Bool} {size:Int} {kids vs us:List V} {many:Nat}
noncomputable def lowPc:List Nat:=[108,111,119,95,112,99]
noncomputable def dX:List Nat:=[102,111,114,109,97,108,95,112,97,114,97,109,101,116,101,114]
noncomputable def attrs(code:Bool)(size:Int):List V:=match code with
 | true=>[.tup [.str lowPc,.str [97,100,100,114],.int 1028],.tup [.str [104,105,103,104,95,112,99],.str [100,97,116,97,52],.int size]]
 | false=>[]
noncomputable def func(code:Bool)(size:Int)(kids:List V)(F:Hp):Hp :=
 (.l 40,.inst 197 (.l 41))::(.l 41,.ns [(34,.str [115,117,98,112,114,111,103,114,97,109]),(74,.ref (.l 42)),(31,.ref (.l 43)),(75,.non),(76,.int (-1))])::(.l 42,.list (attrs code size))::(.l 43,.list kids)::F
noncomputable def lowOf(code:Bool):Int:=match code with
 | true=>1028
 | false=>-1
noncomputable abbrev d4(s:Ms)(lg:V)(lo:O)(wd:List Nat)(di:Nat)(dc:List (Int×V))(ho:O)(lw:Lw)(K:Hp->Hp)(code:Bool)(size:Int)(kids:List V)(F:Hp):Hp:=am s lg lo (au wd di dc ho (a_ lw (K (func code size kids F))))
theorem fLow(q:Q (.int (lowOf code)) fr (d4 s lg lo wd di dc ho lw bd code size kids F)):HK (d+2) hd (.top 91) [.ref (.l 40)] fr (d4 s lg lo wd di dc ho lw bd code size kids F) Q E:=by
 refine kf rfl ?_;refine kf rfl ?_;cases code with
 | true =>
  refine aI (a9 rfl) rfl ?_;exact q
 | false =>
  refine .nil (a9 rfl) rfl ?_;exact q
inductive Kids (L:Hp):List V->Nat->Prop
 | nil:Kids L [] 0
 | yes {c:Nat} {cd:Hd} {fs:List (Nat×V)} {vs:List V} {n:Nat} (m:(.s c,O.inst 197 cd)∈L) (m':(cd,O.ns fs)∈L) (h:look 34 fs=some (.str dX)) (k:Kids L vs n):Kids L (.ref (.s c)::vs) (n+1)
 | no {c:Nat} {cd:Hd} {fs:List (Nat×V)} {t:List Nat} {vs:List V} {n:Nat} (m:(.s c,O.inst 197 cd)∈L) (m':(cd,O.ns fs)∈L) (h:look 34 fs=some (.str t)) (h':aF t dX=false) (k:Kids L vs n):Kids L (.ref (.s c)::vs) n
theorem Kids.mono{j:Nat}(k:Kids L vs j)(z:∀p,p∈L->p∈L'):Kids L' vs j:=by
 induction k with
 | nil=>exact .nil
 | yes a b h _ ih=>exact .yes (z _ a) (z _ b) h ih
 | no a b h h' _ ih=>exact .no (z _ a) (z _ b) h h' ih
theorem bz{p:Hd×O}(h:p∈F):p∈func code size kids F:=.tail _ (.tail _ (.tail _ (.tail _ h)))
noncomputable def t124(d:Nat)(hd:Bool):V->Sc->(Sc->Prop)->Prop:=iA ((wp d (Zx.K (Zx.C (Zx.a (Zx.l 33 460651) 34 796651) .eq (Zx.s 2 1561751) 2644651) Zx.Z) hd).tB true) (wp d (Zx.l 33 432651) hd).val 33 []
theorem kids_{done:Sc->Prop}(m:(n,O.list us)∈L)(hm:many<=8)(q:∀acc:List V,acc.length=many->done (acc,L)){vs:List V}{j:Nat}(K:Kids L vs j):
  ∀(k:Nat) (acc:List V),us.drop k=vs->acc.length+j=many->Lp Prod.snd (t124 d hd) done (.lst n k) (acc,L):=by
 have hd':∀{k:Nat} {x:V} {r:List V},us.drop k=x::r->us[k]?=some x/\us.drop (k+1)=r:=λe=>⟨by rw[<-List.head?_drop,e];rfl,by rw[<-List.tail_drop,e];rfl⟩;have sz:∀{acc:List V} {j:Nat},acc.length+j=many->acc.length<=1000000:=λe=>qC (qC (qI _ _) (qU e)) (qC hm (by decide))
 induction K with
 | nil=>exact λk acc e ea=>.nil m (by rw[<-List.head?_drop,e];rfl) (q acc ea)
 | yes m1 m2 h _ ih =>
  intro k acc e ea;refine aI m (hd' e).1 ⟨sz ea,?_⟩;refine gc (.inst m1 m2 rfl) h ?_;exact ih (k+1) _ (hd' e).2 (by rw[List.length_append];exact(Nat.add_right_comm _ 1 _).trans ea)
 | no m1 m2 h h' _ ih =>
  intro k acc e ea;refine aI m (hd' e).1 ⟨sz ea,?_⟩;refine gc (.inst m1 m2 rfl) h ?_;refine aB h' ?_;exact ih (k+1) _ (hd' e).2 ea
theorem checked(K:Kids F kids many)(m:(nl,O.list (ns.map V.int))∈F)(hn:ns.length<=8)(hm:many<=8)(q1:ns.length=many->Q .non fr (d4 s lg lo wd di dc ho lw bd code size kids F))(q2:ns.length≠many->Cf E fr (d4 s lg lo wd di dc ho lw bd code size kids F)):
  HK (d+4) false (.top 124) [.ref (.l 40),.ref nl] fr (d4 s lg lo wd di dc ho lw bd code size kids F) Q E:=by
 exists K m hn hm q1 q2,zF fr,zN d,aK E,zh nl,aK Q,zm s,zL F,zv lg,zo lo,zo ho,zL wd,zN di,zL dc,zl lw,zL ns,zB code,zI size,zL kids,zN many;refine .dw (kf rfl ?_);refine kids_ (us:=kids) (a9 rfl) hm (λacc ea=>?_) (K.mono λ_ h=>av (ao (bw (.tail _ (.tail _ (.tail _ (bz h))))))) 0 [] rfl (Nat.zero_add _);refine .sym0 λn=>?_;refine gh (as:=acc) (.head _) (ea.symm▸qC hm (by decide)) ?_;have len:∀{d:Nat} {hd:Bool} {fr:Fr} {L:Hp} {Q:V->Fr->Hp->Prop} {E:Hd->Fr->Hp->Prop},(nl,O.list (ns.map V.int))∈L->Q (.int ns.length) fr L->HK d hd (.bi 0) [.ref nl] fr L Q E:=λm q=>gh m (by rw[qG];exact qC hn (by decide)) (by rw[qG];exact q);have mm:=(List.Mem.tail (.s n,O.list acc)) (av (s:=s) (lg:=lg) (lo:=lo) (ao (wd:=wd) (di:=di) (es:=dc) (ho:=ho) (bw (lw:=lw) (.tail (.l 16,O.hole) (.tail (.l 17,O.hole) (.tail (.l 18,O.hole) (bz (code:=code) (size:=size) (kids:=kids) m)))))));refine len mm ?_;by_cases c1:ns.length<acc.length
 .refine aJ (lU (Int.ofNat_lt.mpr c1)) ?_;refine cE λn k=>?_;exact⟨_,_,_,rfl,.tail _ (.head _),_,.cons_cons _ (.cons_cons _ (.cons _ (.refl _))),q2 (λe=>absurd (ea.trans e.symm) (Nat.ne_of_gt c1)) _ _ _⟩
 .refine aB (qh (Int.ofNat_le.mpr (Nat.not_lt.mp c1))) ?_;refine len mm ?_;by_cases c2:acc.length<ns.length
  .refine aJ (lU (Int.ofNat_lt.mpr c2)) ?_;refine cE λn k=>?_;exact⟨_,_,_,rfl,.tail _ (.head _),_,.cons_cons _ (.cons_cons _ (.cons _ (.refl _))),q2 (λe=>absurd (ea.trans e.symm) (q_ c2)) _ _ _⟩
  .refine aB (qh (Int.ofNat_le.mpr (Nat.not_lt.mp c2))) ?_;refine len mm ?_;refine aB (qh (Int.ofNat_le.mpr hn)) ?_;exact dw1 (q1 ((Nat.le_antisymm (Nat.not_lt.mp c2) (Nat.not_lt.mp c1)).trans ea))
end
end
section
section
variable {fr:Fr} {L L':Hp} {d:Nat} {hd:Bool} {E:Hd->Fr->Hp->Prop} {n nl:Hd} {Q:V->Fr->Hp->Prop} {s s' s0:Ms} {es es':List V} {F:Hp} {lg lg0:V} {lo ho:O} {wd told:List Nat} {di u t sp fl k0:Nat} {o:Option Nat} {ms:List (Nat×List UInt8)} {dc:List (Int×V)} {lw:Lw} {ns:List Int} {code:Bool} {size:Int} {kids vs us:List V} {many:Nat} {rows:List Row}
theorem alive_(q1:lw.alive=true->Q .non fr (am s lg lo (au wd di dc ho (a_ lw F))))(q2:lw.alive=false->Cf E fr (am s lg lo (au wd di dc ho (a_ lw F)))):HK (d+4) false (.ref (.l 27)) [] fr (am s lg lo (au wd di dc ho (a_ lw F))) Q E:=by
 refine k_in (a9 rfl) ?_;cases z:lw.alive with
 | true =>
  refine aB (qF not z) ?_;exact q1 z
 | false =>
  refine aJ (qF not z) ?_;refine cE λn k=>?_;exact⟨_,_,_,rfl,.tail _ (.head _),q2 z _ _ _⟩
noncomputable def flr(lw:Lw):Nat:=max (max (1024+lw.text.length) lw.low) 1552
noncomputable def f152:X:=Zx.K (Zx.e (Zx.m (Zx.l 69 341694) 71 (Zx.K (Zx.l 17 604894) (Zx.K (Zx.f (Zx.g 72 947194) (Zx.K (Zx.a (Zx.l 47 619594) 39 1291594) Zx.Z) 2375194) Zx.Z)) 1265694 4541694) 4541694) (Zx.K (Zx.e (Zx.m (Zx.l 47 593695) 73 Zx.Z 1097695 1265695) 1265695) (Zx.K (Zx.A (Zx.a (Zx.l 47 593696) 68 1097696) (Zx.l 68 436896) 1769696) Zx.Z))
noncomputable def frC(nl:Hd)(lw:Lw):Fr:=⟨[(47,.ref (.l 22)),(30,.ref (.l 40)),(35,.ref nl),(17,.ref (.l 5)),(12,.int 1028),(68,.int lw.lev),(69,.ref (.l 16))],[]⟩
theorem fin_{W:Fl->Kn}{s2:Ms}(e2:(⟨s0.rg,bk (flr lw) (ah s0.rg 2) ms.reverse s.mem,s0.pc,s0.st,s0.dn,s.out,s.kn⟩:Ms)=s2)(h0:s0.rg.length=32)(hr:s.rg.length=32)(hm:s.mem.length=3072)(G:LG es ms)(hl:es.length<=1000)(ok:MsOk ms)(ht:lw.text.length<=1000)
  (q:∀n,W .next (frC nl lw) (am s2 lg0 (.list es) (au wd di dc ho (a_ lw (kept s0 lg0 ((.s n,.list es.reverse)::F)))))) :
  (wp (d+3) f152 hd).stms (frC nl lw) (aA s es (au wd di dc ho (a_ lw (kept s0 lg0 F)))) W E:=by
 subst e2;refine objEnd ht ?_;refine qp h0 hr hm G hl ok λn=>?_;refine k_in (a9 rfl) ?_;exact q n
noncomputable def aft(lw:Lw)(s:Ms)(w:Wr)(kn:List (Int×V)):Ms:=⟨s.rg,fw (flr lw) (ah s.rg 2) s.mem w.s,s.pc,s.st,s.dn,w.out,kn⟩
noncomputable def la(lw:Lw)(s:Ms)(w:Wr)(lg:V)(size:Int)(kids:List V)(kn:List (Int×V))(lo:O)(wd:List Nat)(dc:List (Int×V))(F:Hp):Hp:=am (aft lw s w kn) lg lo (au wd 15 dc (.dict []) (a_ lw (func true size kids F)))
theorem pj{w:Wr}(hk:(((ah s.rg 2:Nat):Int) - 64) / 16*16=(k0:Int))(ok:j2 lw.stop)(g:Go k0 0 rows (s1 s ns k0) [] [])(hr:RG s.rg)(ht:lw.text.length<=1000)(K:Kids F kids many)(m:(nl,O.list (ns.map V.int))∈F)(hn:ns.length<=8)(hmany:many<=8)
  (ew:w=du lw.stop rows 0 (s1 s ns k0).rg s.mem s.out)
  (q0:¬(lw.alive=true/\code=true/\ns.length=many)->Cf E fr (d4 s lg .hole wd 14 [] .hole lw bd code size kids F))
  (q1:lw.alive=true/\code=true/\ns.length=many->w.b=true->ah w.rg 2=k0->∀kn lo wd dc,Q (.int (ah w.rg 10)) fr (la lw s w lg size kids kn lo wd dc F))
  (q2:lw.alive=true/\code=true/\ns.length=many->¬(w.b=true/\ah w.rg 2=k0)->∀kn lo wd dc,Cg E fr (la lw s w lg size kids kn lo wd dc []) F) :
  HK (d+18) false (.top 152) [.ref (.l 22),.ref (.l 40),.ref nl] fr (d4 s lg .hole wd 14 [] .hole lw bd code size kids F) Q E:=by
 exists hk ok g hr ht K m hn hmany ew q0 q1 q2,zF fr,zN d,aK E,zh nl,aK Q,zm s,zL F,zv lg,zL wd,zN k0,zl lw,zL ns,zB code,zI size,zL kids,zN many,zL rows,zR w;refine .dw (kf rfl ?_);refine alive_ (λha=>?_) λha w n k=>dw0 (q0 (λz=>Bool.noConfusion (ha.symm.trans z.1)) w n k);refine fLow ?_;cases code with
 | false =>
  refine cE λn k=>?_;exact⟨_,_,_,rfl,.tail _ (.head _),dw0 (q0 (λz=>Bool.noConfusion z.2.1) _ n k)⟩
 | true =>
  refine checked K m hn hmany (λhe=>?_) λhe w n k=>dw0 (q0 (λz=>he z.2.2) w n k);have q1:=q1 ⟨ha,rfl,he⟩;have q2:=q2 ⟨ha,rfl,he⟩;refine keep_ hr.len ?_;refine .fix 11 (aa rfl) ?_;refine nn λno=>?_;obtain⟨w1,w2,w3⟩:=jy (o:=lw.stop) rows 0 (s1 s ns k0).rg s.mem s.out g.B g.ok g.I g.hm;refine no ?_;rw[<-ew] at w1 w2;have ms:=w2.ms g.hm;have eb:bk (flr lw) (ah s.rg 2) (fp w.s).reverse w.mem=fw (flr lw) (ah s.rg 2) s.mem w.s:=bk_fw w2 g.hm;have eq:∀{s' es},Lft w s' es->(⟨s.rg,bk (flr lw) (ah s.rg 2) (fp w.s).reverse s'.mem,s.pc,s.st,s.dn,s'.out,s'.kn⟩:Ms)=aft lw s w s'.kn:=λf=>by rw[f.mem,f.out,eb];rfl
  have sub:∀{kn:List (Int×V)} {lo wd dc} {p:Hd×O} {F:Hp},List.Sublist (la lw s w lg size kids kn lo wd dc F) (am (aft lw s w kn) lg lo (au wd 15 dc (.dict []) (a_ lw (kept s lg (p::func true size kids F))))):=λ{kn lo wd dc p F} =>
   List.Sublist.append_left (l:=am (aft lw s w kn) lg lo (au wd 15 dc (.dict []) (a_ lw []))) (.cons _ (.cons _ (.cons _ (.cons _ (.refl _)))))
  refine ran_ (s:=s) (P:=kept s lg (func true size kids [])) rfl hn (kW (bz m)) hr hk ok g ew w1.len ms.2 (λhb hs s' es wd f=>?_) λhb s' es wd f wo n k=>?_
  .refine fin_ (nl:=nl) (lw:=lw) (eq f) hr.len (f.rg▸w1.len) (f.mem▸ms.2) f.G (qC f.l (by decide)) ms.1 ht λn=>?_;exact⟨_,sub,q1 hb hs _ _ _ _⟩
  .refine fin_ (nl:=nl) (lw:=lw) (F:=func true size kids ((.s k,.ns [(9,.str wo)])::(.s n,.exc 70 (some (.s k)))::F)) (eq f) hr.len (f.rg▸w1.len) (f.mem▸ms.2) f.G (qC f.l (by decide)) ms.1 ht λp=>?_;exact⟨_,sub,q2 hb _ _ _ _ _ _ _⟩
end
end
section
section
variable {fr:Fr} {L L':Hp} {d:Nat} {hd:Bool} {E:Hd->Fr->Hp->Prop} {n:Hd} {Q:V->Fr->Hp->Prop} {F:Hp}
structure Wst (c:Nat) where
 a:Nat
 z:Nat
 h:a<=c
variable {c:Nat} {ns:List Nat} {k:Wst c}
noncomputable def Wst.up{b:Nat}(k:Wst b)(h:b<=c):Wst c:=⟨k.a,k.z,qC k.h h⟩
noncomputable def nats(l:List Nat):O:=.list (l.map λ(x:Nat)=>V.int (x:Int))
noncomputable def well(ns:List Nat)(k:Wst c)(F:Hp):Hp:=(.l 44,.list [.ref (.l 45),.int k.a,.int k.z])::(.l 45,nats ns)::F
theorem f_lenI(m:(n,nats ns)∈L)(h:ns.length<=1000000)(q:Q (.int ns.length) fr L):HK d hd (.bi 0) [.ref n] fr L Q E:=by
 have e:(ns.map λ(x:Nat)=>V.int (x:Int)).length=ns.length:=qG _;refine gh m (e▸h) ?_;refine(e).symm▸?_;exact q
noncomputable def stir(k:Wst c)(p:Nat):Nat:=(k.z*48271+p % 65521+7*k.a+13) % 2147483647
theorem cw{n:Nat}(h:n<=9000):kA (n:Int)=true:=decide_eq_true (r6 h (by decide))
theorem bW{α:Type}{b:Bool}{m n:Ab α}{Q:α->Kn}(h:b=true)(q:m fr L Q E):bg b m n fr L Q E:=h▸q
theorem bool_f{α:Type}{b:Bool}{m n:Ab α}{Q:α->Kn}(h:b=false)(q:n fr L Q E):bg b m n fr L Q E:=h▸q
noncomputable def tl:X->X
 | .cons _ r=>r
 | x=>x
noncomputable def qc:X->X
 | .cons (.for_ _ _ b _) _=>b
 | x=>x
theorem drawn{size p:Nat}{W:Fl->Kn}(hc:c<=9000)(hs:0<size)(q:∀(k':Wst (c+1)) fr,W (.ret (.int ((p % size:Nat):Int))) fr (well ns k' F)):
  (wp d (tl (tl Zx.x654)) hd).stms ⟨[(176,.ref (.l 44)),(118,.int size),(35,.ref (.l 45)),(11,.int k.a),(175,.int k.z),(177,.int p)],[]⟩ (well ns k F) W E:=by
 refine lZ (j:=1) (x:=.int ((k.a+1:Nat):Int)) (aa rfl) rfl ?_;refine bW (cw (qC k.h hc)) ?_;refine lZ (j:=2) (x:=.int ((stir k p:Nat):Int)) (aa rfl) rfl ?_;refine bW (lU (Int.ofNat_lt.mpr hs)) ?_;exact q ⟨k.a+1,stir k p,r7 k.h⟩ _
theorem draw{size:Nat}(hn:ns.length<=60)(hc:c<=9000)(hs:0<size)(q:∀(k':Wst (c+1)) r,r<size->Q (.int (r:Nat)) fr (well ns k' F)):HK (d+1) hd (.top 654) [.ref (.l 44),.int size] fr (well ns k F) Q E:=by
 refine kf rfl ?_;refine⟨_,a9 rfl,?_⟩;refine f_lenI (ns:=ns) (a9 rfl) (qC hn (by decide)) ?_;by_cases h:k.a<ns.length
 .refine aJ (lU (Int.ofNat_lt.mpr h)) ?_;refine x_list (l:=ns.map λ(x:Nat)=>V.int (x:Int)) (j:=k.a) (a:=.int (ns[k.a]:Nat)) (a9 rfl) (fG (by rw[qG];exact h) (by rw[qG];exact qC hn (by decide))) (by rw[List.getElem?_map,List.getElem?_eq_getElem h];rfl) ?_;refine drawn hc hs λk' fr'=>?_;exact q k' _ (Nat.mod_lt _ hs)
 .refine aB (qh (Int.ofNat_le.mpr (Nat.not_lt.mp h))) ?_;refine drawn hc hs λk' fr'=>?_;exact q k' _ (Nat.mod_lt _ hs)
end
end
section
section
variable {fr:Fr} {L L':Hp} {d:Nat} {hd:Bool} {E:Hd->Fr->Hp->Prop} {n:Hd} {Q:V->Fr->Hp->Prop} {F G:Hp} {c a b t way lr:Nat} {ns:List Nat} {k:Wst c} {rs:List Row} {W:Fl->Kn}
theorem nW{l:List V}{r:Nat}{v:V}(h:l[r]?=some v)(hl:l.length<=1000000)(q:Q v fr L):itW (.tup l) (.int r) fr L Q E:=by
 refine(?_:aD (iX (r:Int) l.length) _ _ fr L Q E);refine(fG (List.getElem?_eq_some_iff.mp h).1 hl).symm▸?_;refine(?_:aD (l[r]?) _ _ fr L Q E);refine(h).symm▸?_;exact q
noncomputable def Hm(v:Nat):Prop:=v<32/\Fre v
noncomputable def homes:List Nat:=[0,5,6,7,8,9,10,11,12,17,18,31]
theorem home{r:Nat}(h:r<12)(q:∀v:Nat,Hm v->Q (.int v) fr L):itW (.tup (homes.map λ(x:Nat)=>V.int (x:Int))) (.int r) fr L Q E:=by
 have e:homes[r]?=some (homes[r]'h):=List.getElem?_eq_getElem h;have m:∀x∈homes,x<32/\(x≠1/\x≠2):=by decide
 exact nW (by rw[List.getElem?_map,e];rfl) (by decide) (q _ (m _ (List.mem_of_getElem? e)))
theorem opOf{r:Nat}(h:r<4)(q:Q (.str (nz r)) fr L):itW (.tup [.str [97,100,100],.str [115,117,98],.str [120,111,114],.str [109,117,108]]) (.int r) fr L Q E :=
 nW (v:=.str (nz r)) (lt4 h rfl rfl rfl rfl) (show 4<=1000000 by decide) q
noncomputable def Rows(rs:List Row):Prop:=∀x∈rs,x.ok/\x.dr
theorem Rows.one{r:Row}(h:r.ok)(h':r.dr):Rows [r]:=λx hx=>by cases hx with|head=>exact⟨h,h'⟩|tail _ h=>cases h
theorem Rows.app{x y:List Row}(hx:Rows x)(hy:Rows y):Rows (x++y):=λr h=>(List.mem_append.mp h).elim (hx r) (hy r)
noncomputable def b7(rs:List Row):O:=.list (rs.map Row.v)
theorem c12{v:Int}(h:(decide (-2048<=v)&&decide (v<2048))=true):C12 v:=⟨qD (ae h),qD (a8 h)⟩
theorem odd(hn:ns.length<=60)(hc:c<=8000)(ha:Hm a)(q:∀(k':Wst (c+2)) r rs,Rows rs->rs.length<=2->Q (.ref (.s r)) fr (well ns k' ((.s r,b7 rs)::F))):
  HK (d+2) hd (.top 668) [.ref (.l 44),.int a] fr (well ns k F) Q E:=by
 exists k hn hc ha q,zF fr,zN d,zB hd,aK E,aK Q,zL F,zN c,zN a,zL ns;refine kf rfl ?_;refine draw hn (qC hc (by decide)) (by decide:0<4) λk1 r hr=>?_;have c1:c+1<=9000:=qC (qQ hc 1) (by decide);by_cases w:r<2
 .refine aJ (lU (Int.ofNat_lt.mpr w)) ?_;refine .sym (well ns k1 []) F rfl λr=>?_;exact q (k1.up (Nat.le_succ _)) r [.addi 17 0 1,.ecall] (Rows.app (x:=[.addi 17 0 1]) (.one ⟨by decide,by decide,c12 rfl⟩ (.fre ⟨by decide,by decide⟩)) (.one trivial trivial)) (by decide)
 .refine aB (qh (Int.ofNat_le.mpr (Nat.not_lt.mp w))) ?_;by_cases w2:r=2
  .refine aJ (bj (qF Int.ofNat w2)) ?_;refine draw hn c1 (by decide:0<4) λk2 r hr=>?_;have fin:∀v:Int,v % 4=0->(decide (-32<=v)&&decide (v<=32))=true->∀r,Q (.ref (.s r)) fr (well ns k2 ((.s r,b7 [.addi 2 2 v])::F)):=λv h0 h r=>q k2 r _ (.one ⟨by decide,by decide,⟨Int.le_trans (by decide) (qD (ae h)),Int.lt_of_le_of_lt (qD (a8 h)) (by decide)⟩⟩ (.sp h0 (qD (ae h)) (qD (a8 h)))) (Nat.le_succ 1);revert fin;refine lt4 hr ?_ ?_ ?_ ?_<;>exact λfin=>.sym (well ns k2 []) F rfl λr=>fin _ rfl rfl r
  .refine aB (bB λz=>w2 (Int.ofNat.inj z)) ?_;refine draw hn c1 (by decide:0<2) λk2 r hr=>?_;have fin:∀v:Int,(decide (-2048<=v)&&decide (v<2048))=true->∀r,Q (.ref (.s r)) fr (well ns k2 ((.s r,b7 [.mem false a 0 v])::F)):=λv h r=>q k2 r _ (.one ⟨ha.1,by decide,c12 h⟩ ⟨ha.2,.ld⟩) (Nat.le_succ 1)
   match r,hr with
   | 0,_=>exact .sym (well ns k2 []) F rfl λr=>fin _ rfl r
   | 1,_=>exact .sym (well ns k2 []) F rfl λr=>fin _ rfl r
end
end
section
section
variable {fr:Fr} {L L':Hp} {d:Nat} {hd:Bool} {E:Hd->Fr->Hp->Prop} {n:Hd} {Q:V->Fr->Hp->Prop} {F G:Hp} {c a b way lr:Nat} {ns:List Nat} {k:Wst c} {rs:List Row} {W:Fl->Kn} {t:V} {tr:List (Nat×V)}
def Rtl(r:List (Nat×V)):Prop:=∀t b a v,∃tr,put 179 v (put 90 a (put 91 b (put 172 t r)))=(172,t)::(91,b)::(90,a)::(179,v)::tr
theorem Rtl.of{t b a v:V}{tr:List (Nat×V)}:Rtl ((172,t)::(91,b)::(90,a)::(179,v)::tr):=λ_ _ _ _=>⟨tr,rfl⟩
def RwQ(ns:List Nat)(c:Nat)(F:Hp)(n:Nat)(W:Fl->Kn):Prop:=∀(k:Wst c) lr rs r G,Rows rs->rs.length<=n->List.Sublist F G->Rtl r->W .next ⟨(176,.ref (.l 44))::(181,.ref (.s lr))::r,[]⟩ (well ns k ((.s lr,b7 rs)::G))
theorem c12a{r:Nat}(h:r<4096):C12 ((r:Int) - 2048):=⟨Int.le_sub_right_of_add_le (Int.natCast_nonneg r),Int.sub_right_lt_of_lt_add (Int.ofNat_lt.mpr h)⟩
structure Spo (v:Int):Prop where
 c:C12 v
 o:∀{st},Ofs 2 v st
theorem spo{r:Nat}(h:r<33):Spo (4*(r:Int) - 32):=by
 have h0:-32<=4*(r:Int) - 32:=Int.le_sub_right_of_add_le (Int.natCast_nonneg (4*r));have h1:4*(r:Int) - 32<=96:=Int.sub_right_le_of_le_add (Int.ofNat_le.mpr (qS 4 (Nat.le_of_lt_succ h)));exact⟨⟨Int.le_trans (by decide) h0,Int.lt_of_le_of_lt h1 (by decide)⟩,.sp h0 h1 (Int.emod_eq_zero_of_dvd ⟨(r:Int) - 8,(Int.mul_sub 4 (r:Int) 8).symm⟩)⟩
theorem obo{r:Nat}(h:r<4):1536<=1536+4*r/\1536+4*r<=1548:=⟨qI _ _,qN (qS 4 (Nat.le_of_lt_succ h)) 1536⟩
theorem obc{r:Nat}(h:r<4):C12 ((1536+4*r:Nat):Int):=⟨Int.le_trans (by decide) (Int.natCast_nonneg _),Int.ofNat_lt.mpr (r6 (obo h).2 (by decide))⟩
theorem rowK(hn:ns.length<=60)(hc:c<=7000)(hw:way<8)(ha:Hm a)(hb:Hm b)(hr:Rows rs)(hl:rs.length<=100)(hs:List.Sublist F G)(q:RwQ ns (c+4) F (rs.length+2) W):
  (wp (d+3) (tl (qc (tl Zx.x675))) hd).stms ⟨(176,.ref (.l 44))::(181,.ref (.s lr))::(172,t)::(91,.int b)::(90,.int a)::(179,.int way)::tr,[]⟩ (well ns k ((.s lr,b7 rs)::G)) W E:=by
 exists k hn hc hw ha hb hr hl hs q,zN d,zB hd,aK E,zL F,zL G,zN c,zN a,zN b,zN way,zN lr,zL ns,zL rs,aK W,zv t,zL tr;have c1:∀j,j<=100->c+j<=9000:=λj h=>qC (Nat.add_le_add hc h) (by decide);have u:∀j,j<=4->c+j<=c+4:=λj h=>qN h c;have hl':(rs.map Row.v).length<=1000000:=by rw[qG];exact qC hl (by decide)
 have snoc:∀{k':Wst (c+4)} {r:Row} {tr:List (Nat×V)},Row.ok r->Row.dr r->W .next ⟨(176,.ref (.l 44))::(181,.ref (.s lr))::(172,t)::(91,.int b)::(90,.int a)::(179,.int way)::tr,[]⟩ (well ns k' ((.s lr,.list (rs.map Row.v++[r.v]))::G)):=λ{k' r tr} h1 h2=>by
  have:=q k' lr (rs++[r]) _ G (hr.app (.one h1 h2)) (by rw[List.length_append];exact Nat.le_succ _) hs (.of (t:=t) (b:=.int b) (a:=.int a) (v:=.int way) (tr:=tr));unfold b7 at this;rw[List.map_append] at this;exact this
 by_cases w0:way=0
 .refine aJ (bj (qF Int.ofNat w0)) ?_;refine bM (as:=rs.map Row.v) (.tail _ (.tail _ (.head _))) ?_;refine draw (size:=4096) hn (c1 0 (by decide)) (by decide) λk1 r h=>?_;refine cb ⟨[_,_],_,rfl,rfl⟩ hl' ?_;exact snoc (k':=k1.up (u 1 (by decide))) (r:=.addi a b ((r:Int) - 2048)) ⟨ha.1,hb.1,c12a h⟩ (.fre ha.2)
 refine aB (bB λz=>w0 (Int.ofNat.inj z)) ?_;by_cases w1:way<3
 .refine aJ (lU (Int.ofNat_lt.mpr w1)) ?_;refine draw (size:=12) hn (c1 0 (by decide)) (by decide) λk1 r h=>?_;refine home h λe he=>?_;refine bM (as:=rs.map Row.v) (.tail _ (.tail _ (.head _))) ?_;refine draw (size:=4) hn (c1 1 (by decide)) (by decide) λk2 o ho=>?_;refine opOf ho ?_;refine i0 (c6 92 92 _ tr) ?_;refine cb ⟨[_,_],_,rfl,rfl⟩ hl' ?_;exact snoc (k':=k2.up (u 2 (by decide))) (r:=.alu o a b e) ⟨ho,ha.1,hb.1,he.1⟩ ha.2
 refine aB (qh (Int.ofNat_le.mpr (Nat.not_lt.mp w1))) ?_;by_cases w2:way<6
 .refine aJ (lU (Int.ofNat_lt.mpr w2)) ?_;refine bM (as:=rs.map Row.v) (.tail _ (.tail _ (.head _))) ?_;by_cases w3:way<5
  .refine aJ (lU (Int.ofNat_lt.mpr w3)) ?_;refine draw (size:=33) hn (c1 0 (by decide)) (by decide) λk1 r h=>?_;refine bW (cw (qC (Nat.le_of_lt h) (by decide))) ?_;refine cb ⟨[_,_],_,rfl,rfl⟩ hl' ?_;exact snoc (k':=k1.up (u 1 (by decide))) (r:=.mem true a 2 (4*(r:Int) - 32)) ⟨ha.1,by decide,(spo h).c⟩ ⟨ha.2,(spo h).o⟩
  .refine aB (qh (Int.ofNat_le.mpr (Nat.not_lt.mp w3))) ?_;refine draw (size:=33) hn (c1 0 (by decide)) (by decide) λk1 r h=>?_;refine bW (cw (qC (Nat.le_of_lt h) (by decide))) ?_;refine cb ⟨[_,_],_,rfl,rfl⟩ hl' ?_;exact snoc (k':=k1.up (u 1 (by decide))) (r:=.mem false a 2 (4*(r:Int) - 32)) ⟨ha.1,by decide,(spo h).c⟩ ⟨ha.2,(spo h).o⟩
 refine aB (qh (Int.ofNat_le.mpr (Nat.not_lt.mp w2))) ?_;by_cases w4:way=6
 .refine aJ (bj (qF Int.ofNat w4)) ?_;refine bM (as:=rs.map Row.v) (.tail _ (.tail _ (.head _))) ?_;refine draw (size:=2) hn (c1 0 (by decide)) (by decide) λk1 j hj=>?_;refine nW (v:=.str (eA (Nat.beq j 0))) (match j,hj with|0,_=>rfl|1,_=>rfl) (show 2<=1000000 by decide) ?_;refine draw (size:=4) hn (c1 1 (by decide)) (by decide) λk2 r h=>?_;refine bW (cw (qC (Nat.le_of_lt h) (by decide))) ?_;refine cb ⟨[_,_],_,rfl,rfl⟩ hl' ?_;exact snoc (k':=k2.up (u 2 (by decide))) (r:=.mem (Nat.beq j 0) a 0 ((1536+4*r:Nat):Int)) ⟨ha.1,by decide,obc h⟩ ⟨ha.2,.ob (obo h).1 (obo h).2⟩
 refine aB (bB λz=>w4 (Int.ofNat.inj z)) ?_;refine odd hn (qC hc (by decide)) ha λk1 r rs2 h1 h2=>?_;refine ju (x:=rs.map Row.v) (z:=rs2.map Row.v) (.tail _ (.tail _ (.tail _ (.head _)))) (.tail _ (.tail _ (.head _))) ?_ (.sym (well ns k1 []) _ rfl λr2=>?_)
 .rw[qG,qG];exact qC (Nat.add_le_add hl h2) (by decide)
 have:=q (k1.up (u 2 (by decide))) r2 (rs++rs2) _ _ (hr.app h1) (by rw[List.length_append];exact qN h2 _) (.cons (.s r,b7 rs2) (.cons (.s lr,b7 rs) hs)) (.of (t:=t) (b:=.int b) (a:=.int a) (v:=.int way) (tr:=tr));unfold b7 at this;rw[List.map_append] at this;exact this
inductive RwI (ns:List Nat) (c:Nat) (F:Hp) (j:Nat) (x:St):Prop
 | mk (k:Wst (c+7*j)) (lr:Nat) (rs:List Row) (r:List (Nat×V)) (G:Hp) (h1:Rows rs) (h2:rs.length<=2*j) (hs:List.Sublist F G) (hr:Rtl r) (e1:x.1=⟨(176,.ref (.l 44))::(181,.ref (.s lr))::r,[]⟩) (e2:x.2=well ns k ((.s lr,b7 rs)::G))
theorem rows_(hn:ns.length<=60)(hc:c<=6000)(q:∀(k':Wst (c+100)) r rs,Rows rs->1<=rs.length->rs.length<=20->Q (.ref (.s r)) fr (well ns k' ((.s r,b7 rs)::F))):
  HK (d+4) hd (.top 675) [.ref (.l 44)] fr (well ns k F) Q E:=by
 exists k hn hc q,zF fr,zN d,zB hd,aK E,aK Q,zL F,zN c,zL ns;refine .dw (kf rfl ?_);refine .sym (well ns k []) F rfl λlr=>?_;refine draw (size:=9) hn (qC hc (by decide)) (by decide) λk1 m hm=>?_;refine eV ?_;refine⟨ff (a:=0) (by decide) (Nat.lt_trans hm (by decide)),?_⟩;have c1:∀{j},j<m->c+1+7*j<=6900:=λh=>qC (Nat.add_le_add (qQ hc 1) (qS 7 (Nat.le_of_lt (Nat.lt_trans h hm)))) (by decide);refine(?_:Lp Prod.snd _ _ (.rng 0 ((m:Int) - 0).toNat) _);refine lp_t0 (n:=m) (I:=RwI ns (c+1) F) (.mk k1 lr [] [] F nofun (r0 _) (.refl F) (λ_ _ _ _=>⟨[],rfl⟩) rfl rfl) (λj x Q E K hj i q=>?_) (λx i=>?_)
 .cases i with
  | mk k lr rs r G h1 h2 hs hr e1 e2 =>
   obtain⟨fr,L⟩:=x;subst e1 e2;have hc':=c1 hj;refine draw (size:=8) hn (qC hc' (by decide)) (by decide) λk1 way hw=>?_;refine draw (size:=12) hn (qC (qQ hc' 1) (by decide)) (by decide) λk2 a ha=>?_;refine home ha λa ha=>?_;refine draw (size:=12) hn (qC (qQ hc' 2) (by decide)) (by decide) λk3 b hb=>?_;refine home hb λb hb=>?_;obtain⟨tr,e⟩:=hr (.int j) (.int b) (.int a) (.int way);refine(show ∀r',r'=_->(wp (d+3) (tl (qc (tl Zx.x675))) hd).stms ⟨(176,.ref (.l 44))::(181,.ref (.s lr))::r',[]⟩ (well ns k3 ((.s lr,b7 rs)::G)) (λf fr L=>match f with|.next=>K (fr,L)|f=>Q f fr L) E from λr' e=>e▸?_) _ e;refine rowK hn (qC (qQ hc' 3) (by decide)) hw ha hb h1 (qC h2 (qC (qS 2 (Nat.le_of_lt (Nat.lt_trans hj hm))) (by decide))) hs λk lr rs' r G h1' h2' hs hr=>?_;exact q _ (.mk (k.up (qW _)) lr rs' r G h1' (qC h2' (qQ h2 2)) hs hr rfl rfl)
 .cases i with
  | mk k lr rs r G h1 h2 hs hr e1 e2 =>
   obtain⟨fr',L⟩:=x;subst e1 e2;have hm':c+1+7*m<=c+60:=qC (qN (qS 7 (Nat.le_of_lt_succ hm)) (c+1)) (qN (by decide:1+56<=60) c);have l18:rs.length<=16:=qC h2 (qS 2 (Nat.le_of_lt_succ hm));refine draw (size:=8) hn (qC hm' (qC (qQ hc 60) (by decide))) (by decide) λk1 way hw=>?_;have fin:∀(rs2:List Row) (r:Nat) (p:Hd×O),Rows rs2->1<=rs2.length->rs2.length<=2->Dw Q (.ref (.s r)) fr (well ns k1 ((.s r,.list (rs.map Row.v++rs2.map Row.v))::p::(.s lr,b7 rs)::G)):=λrs2 r p h1' h2' h3'=>by
    rw[<-List.map_append];exact⟨_,List.Sublist.append_left (.cons_cons _ (.cons _ (.cons _ hs))) (well ns k1 []),q (k1.up (qC (qQ hm' 1) (qN (by decide:61<=100) c))) r (rs++rs2) (h1.app h1') (by rw[List.length_append];exact qC h2' (Nat.le_add_left _ _)) (by rw[List.length_append];exact qC (Nat.add_le_add l18 h3') (by decide))⟩
   refine i0 (c6 179 179 _ r) ?_;by_cases w6:way=6
   .refine aJ (bj (qF Int.ofNat w6)) ?_;refine .sym (well ns k1 []) _ rfl λp=>?_;refine ju (x:=rs.map Row.v) (z:=[Row.addi 17 0 93,.ecall].map Row.v) (.tail _ (.tail _ (.tail _ (.head _)))) (.tail _ (.tail _ (.head _))) (by rw[qG];exact qC (Nat.add_le_add l18 (show [Row.addi 17 0 93,.ecall].length<=2 by decide)) (by decide)) (.sym (well ns k1 []) _ rfl λr2=>?_);exact fin [.addi 17 0 93,.ecall] r2 _ (Rows.app (x:=[.addi 17 0 93]) (.one ⟨by decide,by decide,c12 rfl⟩ (.fre ⟨by decide,by decide⟩)) (.one trivial trivial)) (by decide) (by decide)
   .refine aB (bB λz=>w6 (Int.ofNat.inj z)) ?_;refine i0 (c6 179 179 _ r) ?_;by_cases w7:way=7
    .refine aJ (bj (qF Int.ofNat w7)) ?_;refine .sym (well ns k1 []) _ rfl λp=>?_;refine ju (x:=rs.map Row.v) (z:=[Row.bad].map Row.v) (.tail _ (.tail _ (.tail _ (.head _)))) (.tail _ (.tail _ (.head _))) (by rw[qG];exact qC (Nat.add_le_add l18 (show [Row.bad].length<=2 by decide)) (by decide)) (.sym (well ns k1 []) _ rfl λr2=>?_);exact fin [.bad] r2 _ (.one trivial trivial) (by decide) (by decide)
    .refine aB (bB λz=>w7 (Int.ofNat.inj z)) ?_;refine .sym (well ns k1 []) _ rfl λp=>?_;refine ju (x:=rs.map Row.v) (z:=[Row.ret].map Row.v) (.tail _ (.tail _ (.tail _ (.head _)))) (.tail _ (.tail _ (.head _))) (by rw[qG];exact qC (Nat.add_le_add l18 (show [Row.ret].length<=2 by decide)) (by decide)) (.sym (well ns k1 []) _ rfl λr2=>?_);exact fin [.ret] r2 _ (.one trivial trivial) (by decide) (by decide)
end
end
section
section
variable {fr:Fr} {L L':Hp} {d:Nat} {hd:Bool} {E:Hd->Fr->Hp->Prop} {n:Hd} {Q:V->Fr->Hp->Prop} {F G:Hp} {r:Row} {f y l x c a b:Nat} {v:Int}
theorem oG:((eQ f y l x c:Nat):Int)=(f:Int)*1048576+y*32768+l*4096+x*128+c:=by unfold eQ;omega
theorem gX:((iQ v:Nat):Int)=v % 4096:=Int.toNat_of_nonneg (Int.emod_nonneg _ (by decide))
theorem gP(hf:f<4096)(hy:y<32)(hl:l<8)(hx:x<32)(hc:c<128):eQ f y l x c<4294967296:=by
 have s:∀{n q r m:Nat},q<m->r<n->n*q+r<n*m:=λ{n q r m} h h'=>qL (Nat.add_lt_add_left h' (n*q)) (qS n h);exact s (m:=33554432) (s (m:=1048576) (s (m:=131072) (s (m:=4096) hf hy) hl) hx) hc
theorem mY:iQ v<4096:=(Int.toNat_lt (Int.emod_nonneg _ (by decide))).mpr (Int.emod_lt_of_pos _ (by decide))
theorem nZ(ok:r.ok):r.word<4294967296:=by
 cases r with
 | addi a b v=>exact gP mY ok.2.1 (by decide) ok.1 (by decide)
 | alu k a b c=>exact gP (qL (Nat.add_lt_add_left ok.2.2.2 _) (lt4 (C:=λk=>32*aluH k+32<=4096) ok.1 (by decide) (by decide) (by decide) (by decide))) ok.2.2.1 (lt4 (C:=λk=>lP k<8) ok.1 (by decide) (by decide) (by decide) (by decide)) ok.2.1 (by decide)
 | mem st a b v =>
  cases st with
  | false=>exact gP mY ok.2.1 (by decide) ok.1 (by decide)
  | true=>exact gP (qL (Nat.add_lt_add_left ok.1 _) (qS 32 (Nat.div_lt_of_lt_mul (n:=32) (k:=128) (mY (v:=v))))) ok.2.1 (by decide) (Nat.mod_lt _ (by decide)) (by decide)
 | ecall=>decide
 | bad=>decide
 | ret=>decide
theorem wI:v % 4096*1048576+(b:Int)*32768+a*128+19=((eQ (iQ v) b 0 a 19:Nat):Int):=by rw[oG,gX];exact qF (·+(a:Int)*128+19) (Int.add_zero _).symm
theorem wL:v % 4096*1048576+(b:Int)*32768+8192+a*128+3=((eQ (iQ v) b 2 a 3:Nat):Int):=by rw[oG,gX];rfl
theorem mul32{g a:Int}:(32*g+a)*1048576=g*33554432+a*1048576:=by rw[Int.add_mul,Int.mul_comm 32 g,Int.mul_assoc];rfl
theorem wS:v % 4096 / 32*33554432+(a:Int)*1048576+b*32768+8192+v % 32*128+35=((eQ (32*(iQ v / 32)+a) b 2 (iQ v % 32) 35:Nat):Int):=by
 have e2:((iQ v % 32:Nat):Int)=v % 32:=(Int.natCast_emod ..).trans ((qF (· % 32) gX).trans (Int.emod_emod_of_dvd v (by decide)));have e1:((32*(iQ v / 32)+a:Nat):Int)=32*(v % 4096 / 32)+a:=by rw[Int.natCast_add,Int.natCast_mul,Int.natCast_ediv,gX];rfl
 rw[oG,e2,e1,mul32];rfl
theorem wA{h:Nat}:((33554432*h+4096*l:Nat):Int)+(c:Int)*1048576+(b:Int)*32768+a*128+51=((eQ (32*h+c) b l a 51:Nat):Int):=by
 have e1:((32*h+c:Nat):Int)=32*(h:Int)+c:=rfl;have e2:((33554432*h+4096*l:Nat):Int)=(h:Int)*33554432+(l:Int)*4096:=qF Int.ofNat (congr (qF HAdd.hAdd (Nat.mul_comm ..)) (Nat.mul_comm ..));rw[oG,e1,mul32,e2,Int.add_right_comm ((h:Int)*33554432) _ ((c:Int)*1048576),Int.add_right_comm _ ((l:Int)*4096)];rfl
theorem word_(ok:r.ok)(q:Q (.int r.word) fr L):HK (d+1) hd (.top 661) [r.v] fr L Q E:=by
 exists ok q,zF fr,zL L,zN d,zB hd,aK E,aK Q,zr r;cases r with
 | addi a b v =>
  refine kf rfl ?_;exact(show Q (.int (v % 4096*1048576+(b:Int)*32768+a*128+19)) fr L from wI▸q)
 | alu k a b c =>
  revert q;refine lt4 ok.1 ?_ ?_ ?_ ?_
  .intro q;refine .dw (kf rfl ?_);refine .sym0 λn=>?_;refine aT (.head _) rfl ?_;exact dw1 (show Q (.int (((33554432*0+4096*0:Nat):Int)+(c:Int)*1048576+(b:Int)*32768+a*128+51)) fr L from wA▸q)
  .intro q;refine .dw (kf rfl ?_);refine .sym0 λn=>?_;refine aT (.head _) rfl ?_;exact dw1 (show Q (.int (((33554432*32+4096*0:Nat):Int)+(c:Int)*1048576+(b:Int)*32768+a*128+51)) fr L from wA▸q)
  .intro q;refine .dw (kf rfl ?_);refine .sym0 λn=>?_;refine aT (.head _) rfl ?_;exact dw1 (show Q (.int (((33554432*0+4096*4:Nat):Int)+(c:Int)*1048576+(b:Int)*32768+a*128+51)) fr L from wA▸q)
  .intro q;refine .dw (kf rfl ?_);refine .sym0 λn=>?_;refine aT (.head _) rfl ?_;exact dw1 (show Q (.int (((33554432*1+4096*0:Nat):Int)+(c:Int)*1048576+(b:Int)*32768+a*128+51)) fr L from wA▸q)
 | mem st a b v =>
  cases st with
  | false =>
   refine kf rfl ?_;exact(show Q (.int (v % 4096*1048576+(b:Int)*32768+8192+a*128+3)) fr L from wL▸q)
  | true =>
   refine kf rfl ?_;exact(show Q (.int (v % 4096 / 32*33554432+(a:Int)*1048576+b*32768+8192+v % 32*128+35)) fr L from wS▸q)
 | ecall =>
  refine .dw (kf rfl ?_);refine .sym0 λn=>?_;refine aT (.head _) rfl ?_;exact dw1 q
 | bad =>
  refine .dw (kf rfl ?_);refine .sym0 λn=>?_;refine aT (.head _) rfl ?_;exact dw1 q
 | ret =>
  refine .dw (kf rfl ?_);refine .sym0 λn=>?_;refine aT (.head _) rfl ?_;exact dw1 q
theorem xor_nat{x y:Nat}(hx:x<4294967296)(hy:y<4294967296):Builtin.bitXor x y=((dy (Builtin.bitXor x y):Nat):Int):=by
 have e:Builtin.bitXor x y=(((x ||| y:Nat) - (x &&& y:Nat):Nat):Int):=by
  rw[Int.ofNat_sub (qC Nat.and_le_left Nat.left_le_or),<-or_nat];rfl
 rw[b4,Int.emod_eq_of_lt (e▸Int.natCast_nonneg _) (e▸Int.ofNat_lt.mpr (r6 (Nat.sub_le _ _) (Nat.or_lt_two_pow (n:=32) hx hy)))]
theorem reck{k x y:Nat}(hk:k<4)(hx:x<4294967296)(hy:y<4294967296):∀(_:Q (.int (dy (qw k x y):Nat)) fr L),HK (d+1) hd (.top 682) [.str (nz k),.int x,.int y] fr L Q E:=by
 have sm:kA (y:Int)=true:=decide_eq_true (Nat.lt_trans hy (by decide));refine lt4 hk ?_ ?_ ?_ ?_
 .intro q;refine kf rfl ?_;exact(show Q (.int (((x:Int)+y) % 4294967296)) fr L from b4 ((x:Int)+y)▸q)
 .intro q;refine kf rfl ?_;exact(show Q (.int (((x:Int) - y) % 4294967296)) fr L from b4 ((x:Int) - y)▸q)
 .intro q;refine kf rfl ?_;exact(show Q (.int (Builtin.bitXor x y)) fr L from(xor_nat hx hy)▸q)
 .intro q;refine kf rfl ?_;refine bW sm ?_;exact(show Q (.int (((x:Int)*y) % 4294967296)) fr L from b4 ((x:Int)*y)▸q)
theorem reckI{x:Nat}(q:Q (.int (dy ((x:Int)+(dy v:Nat)):Nat)) fr L):HK (d+1) hd (.top 682) [.str [97,100,100,105],.int x,.int (v % 4294967296)] fr L Q E:=by
 refine kf rfl ?_;exact(show Q (.int (((x:Int)+v % 4294967296) % 4294967296)) fr L from b4 v▸b4 ((x:Int)+(dy v:Nat))▸q)
end
end
section
section
variable {fr:Fr} {L L':Hp} {d:Nat} {hd:Bool} {E:Hd->Fr->Hp->Prop} {n:Hd} {Q:V->Fr->Hp->Prop} {F G:Hp} {r:Row} {a b:Nat} {v:Int} {rg:List Nat} {mem out:List UInt8} {sto:gm} {st:Bool}
noncomputable def regsS:List Nat:=[114,101,103,105,115,116,101,114,115]
noncomputable def storesS:List Nat:=[115,116,111,114,101,115]
noncomputable def outS:List Nat:=[111,117,116]
noncomputable def stV(s:gm):List V:=s.map λp=>.tup [.int ((1024+p.1:Nat):Int),.bytes p.2.2]
noncomputable def q5(l:List UInt8):List V:=l.map λb=>.int b.toNat
noncomputable def room(rg:List Nat)(mem:List UInt8)(sto:gm)(out:List UInt8)(F:Hp):Hp :=
 (.l 46,.sdict [(regsS,.ref (.l 47)),(oL,.ref (.l 48)),(storesS,.ref (.l 49)),(outS,.ref (.l 50))])::(.l 47,iU rg)::(.l 48,.barr mem)::(.l 49,.list (stV sto))::(.l 50,.list (q5 out))::F
theorem pz(hr:RG rg)(hm:mem.length=3072)(ha:a<32)(hb:b<32)(hs:sto.length<=1000)(q0:kh (cJ rg b v)=false->Q (.bool false) fr (room rg mem sto out F))
  (q1:kh (cJ rg b v)=true->Q (.bool true) fr (match st with
   | false=>room (rg.set a (bn (aw mem (cJ rg b v - 1024) 4))) mem sto out F
   | true=>room rg (ay mem (cJ rg b v - 1024) (f5 4 (ah rg a))) (sto++[(cJ rg b v - 1024,aw mem (cJ rg b v - 1024) 4,f5 4 (ah rg a))]) out F)) :
  HK (d+1) hd (.top 689) [.ref (.l 46),(Row.mem st a b v).v] fr (room rg mem sto out F) Q E:=by
 exists hr hm ha hb hs q0 q1,zF fr,zN d,zB hd,aK E,aK Q,zL F,zN a,zN b,zI v,zL rg,zL mem,zL out,zL sto,zB st;refine .dw (kf rfl ?_);refine aT (a9 rfl) rfl ?_;refine b6 (a9 rfl) hr.len hb ?_;have e:((ah rg b:Int)+v) % 4294967296=((cJ rg b v:Nat):Int):=(b4 _).symm;refine(show ∀i:Int,i=((cJ rg b v:Nat):Int)->(wp d (tl (tl Zx.x689)) hd).stms ⟨[(185,.ref (.l 46)),(22,(Row.mem st a b v).v),(89,.str (eA st)),(90,.int a),(91,.int b),(92,.int v),(43,.int i)],[]⟩ (room rg mem sto out F) (Rt (Dw Q) fr) (λn _ L=>Dw E n fr L) from λi e'=>?_) _ e;subst e';generalize cJ rg b v=u at q0 q1;cases hk:kh u with
 | false =>
  have q0:=q0 hk;rcases okA_f hk with h|⟨h,h'⟩
  .refine aJ (al_t rfl h) ?_;exact dw0 q0
  .refine aB (al_f rfl h) ?_;by_cases c:u<1024
   .refine aJ (lU (Int.ofNat_lt.mpr c)) ?_;exact dw0 q0
   .refine aB (qh (Int.ofNat_le.mpr (Nat.not_lt.mp c))) ?_;refine aJ (lU (Int.ofNat_lt.mpr (h'.resolve_left c))) ?_;exact dw0 q0
 | true =>
  have q1:=q1 hk;have h:=gb hk;have h1:1024<=u:=r9 (ae (a8 hk));refine aB (al_f rfl (jJ hk)) ?_;refine aB (qh (Int.ofNat_le.mpr h1)) ?_;refine aB (qh (Int.ofNat_le.mpr (r9 (a8 (a8 hk))))) ?_;have hs:=h.s;cases st with
  | false =>
   refine jR ?_;refine aT (a9 rfl) rfl ?_;refine lV (a9 rfl) (d1 hm) (.int _) (.int _) (.sym0 λn=>?_);have ec:bG (some ((u:Int) - 1024)) (some ((u:Int) - 1024+4)) mem=aw mem (u - 1024) 4:=by rw[hs];exact h.cut hm
   refine k_ofR (.head _) ((qF List.length ec).trans (aQ (hm▸h.h))) ?_;refine aT (.tail _ (a9 rfl)) rfl ?_;refine bC (v:=bn (aw mem (u - 1024) 4)) (aa rfl) hr.len ha rfl (qF (λl=>((bn l:Nat):Int)) ec) ?_;exact dw1 q1
  | true =>
   refine aT (a9 rfl) rfl ?_;refine b6 (a9 rfl) hr.len ha ?_;refine mJ ?_;refine k_toN rfl (hr.get ha) ?_;refine aT (a9 rfl) rfl ?_;refine gI (s:=u - 1024) (t:=u - 1024+4) (aa rfl) (d1 hm) (.int _) (.int _) (hs.symm▸h.cl hm) (hs.symm▸h.ch hm) (qF (u - 1024+·) (fA 4 _)) ?_;refine aT (a9 rfl) rfl ?_;refine bM (a9 rfl) ?_;refine cb (aa rfl) (by rw[show(stV sto).length=sto.length from qG _];exact qC ‹_› (by decide)) ?_;have es:stV (sto++[(u - 1024,aw mem (u - 1024) 4,f5 4 (ah rg a))])=stV sto++[.tup [.int u,.bytes (f5 4 (ah rg a))]]:=by
    unfold stV;refine(List.map_append).symm▸?_;refine(h.e).symm▸?_;rfl
   have q1:Q (.bool true) fr (room rg (ay mem (u - 1024) (f5 4 (ah rg a))) (sto++[(u - 1024,aw mem (u - 1024) 4,f5 4 (ah rg a))]) out F):=q1;unfold room at q1;have q1:=(es)▸q1;exact dw0 q1
end
end
section
section
variable {fr:Fr} {L L':Hp} {d:Nat} {hd:Bool} {E:Hd->Fr->Hp->Prop} {rl:Hd} {Q:V->Fr->Hp->Prop} {F G:Hp} {r:Row} {a b first t:Nat} {v:Int} {rg:List Nat} {mem out:List UInt8} {sto:gm} {st:Bool} {lw:Lw} {W:Fl->Kn} {K:St->Prop} {op:List Nat} {i j k:Int}
noncomputable def stD(lw:Lw):List PyData:=match lw.stop with
 | none=>[]
 | some t=>[.int ((1024+t:Nat):Int)]
theorem rds_st:Rds L 8 lw.stops (stD lw):=by unfold Lw.stops stD;cases lw.stop with|none=>exact bD|some t=>exact aG ca bD
theorem eqv_int:PyData.eqv (.int i) (.int j)=ai i j:=by
 rfl
theorem any_st(ei:i=((1028+4*t:Nat):Int)):((stD lw).any λz=>PyData.eqv z (.int i))=decide (lw.stop=some (4+4*t)):=by
 unfold stD;cases lw.stop with
 | none=>rfl
 | some u =>
  refine(?_:(PyData.eqv (.int ((1024+u:Nat):Int)) (.int i)||false)=_);rw[eqv_int,Bool.or_false,ei];unfold ai;rw[decide_eq_decide];exact⟨λe=>qF some (Nat.add_left_cancel ((Int.ofNat_inj.mp e).trans (Nat.add_assoc 1024 4 _))),λe=>qF Int.ofNat ((qF (1024+·) (qJ e)).trans (Nat.add_assoc 1024 4 _).symm)⟩
noncomputable def ll:X->X
 | .cons (.forE _ _ b _ _ _ _) _=>b
 | x=>x
noncomputable def fW(rl:Hd)(first:Nat)(r:List (Nat×V)):Fr:=⟨(187,.ref rl)::(185,.ref (.l 46))::(56,.ref (.l 33))::(186,.int first)::(15,.ref (.l 47))::r,[]⟩
noncomputable def Wtl(r:List (Nat×V)):Prop:=∀t w x y z u,put 92 u (put 91 z (put 90 y (put 89 x (put 22 w (put 11 t r)))))=[(11,t),(22,w),(89,x),(90,y),(91,z),(92,u)]
noncomputable def t696(d:Nat)(hd:Bool)(v:V):Ab Fl:=(iT 2 v).bind λvs=>((wp d (Zx.K (Zx.l 11 174210) (Zx.K (Zx.l 22 261010) Zx.Z)) hd).asgs vs).bind λ_=>(wp d (ll (tl Zx.x696)) hd).stms
noncomputable def badS:List Nat:=[98,97,100]
noncomputable def oC(W:Fl->Kn)(K:St->Prop):Fl->Kn:=λf fr L=>match f with
 | .next=>K (fr,L)
 | f=>W f fr L
theorem lwA{rr:List (Nat×V)}(ht:t<=20)(f:Wtl rr)(m:(.l 33,O.list lw.stops)∈L)(k0:Hit lw.stop t->∀fr,W (.ret (.bool false)) fr L)(k1:aF op badS=true->∀fr,W (.ret (.bool false)) fr L)
  (k2:¬Hit lw.stop t->aF op badS=false->(wp d (tl (tl (ll (tl Zx.x696)))) hd).stms (fW rl first [(11,.int t),(22,.tup [.str op,.int i,.int j,.int k]),(89,.str op),(90,.int i),(91,.int j),(92,.int k)]) L (oC W K) E) :
  aU (t696 d hd) W E (.tup [.int t,.tup [.str op,.int i,.int j,.int k]]) (fW rl first rr,L) K:=by
 exists ht f m k0 k1 k2,zL L,zN d,zB hd,aK E,zh rl,zN first,zN t,zl lw,aK W,zp1 K,zL op,zI i,zI j,zI k,zL rr
 refine i0 (c6 22 22 _ _) ?_;refine(show ∀r',r'=_->(wp d (tl (ll (tl Zx.x696))) hd).stms (fW rl first r') L (oC W K) E from λr' e=>e▸?_) _ (f _ _ _ _ _ _);cases t with
 | zero =>
  cases z:aF op badS with
  | true =>
   refine aJ z ?_;exact k1 z _
  | false =>
   refine aB z ?_;exact k2 (λh=>absurd h.1 (Nat.lt_irrefl 0)) z
 | succ t =>
  refine aJ (lU (Int.ofNat_lt.mpr (Nat.succ_pos t))) ?_;refine bW (cw (qC ht (by decide))) ?_;refine o_inl m ca rds_st ?_;by_cases h:lw.stop=some (4+4*(t+1))
  .refine aJ ((any_st (i:=1028+4*((t+1:Nat):Int)) rfl).trans (decide_eq_true h)) ?_;exact k0 ⟨Nat.succ_pos t,h⟩ _
  .refine aB ((any_st (i:=1028+4*((t+1:Nat):Int)) rfl).trans (decide_eq_false h)) ?_;cases z:aF op badS with
   | true =>
    refine aJ z ?_;exact k1 z _
   | false =>
    refine aB z ?_;exact k2 (λh'=>h h'.2) z
end
end
section
section
variable {fr:Fr} {L L':Hp} {d:Nat} {hd:Bool} {E:Hd->Fr->Hp->Prop} {rl:Hd} {Q:V->Fr->Hp->Prop} {F G:Hp} {r:Row} {a b first t:Nat} {v:Int} {rg:List Nat} {mem out:List UInt8} {sto:gm} {st:Bool} {lw:Lw} {W:Fl->Kn} {K:St->Prop} {op:List Nat} {i j k:Int}
theorem set0(hr:RG rg)(hz:ah rg 0=0):rg.set 0 0=rg:=by
 have h:0<rg.length:=hr.len▸(by decide);have e:rg[0]=0:=qJ ((List.getElem?_eq_getElem h).symm.trans ((dP h).trans (qF some hz)));exact(qF (rg.set 0) e.symm).trans (List.set_getElem_self h)
theorem g7(hr:RG rg)(hz:ah rg 0=0):(rg.set a (dy v)).set 0 0=bL rg a v:=by
 unfold bL;by_cases e:a=0
 .rw[if_pos e,e,List.set_set];exact set0 hr hz
 .rw[if_neg e,List.set_comm _ _ e,set0 hr hz]
theorem oN{n:Nat}(h:n<4294967296):dy (n:Int)=n:=Nat.mod_eq_of_lt h
theorem ieq_nat:ai (a:Int) (b:Int)=Nat.beq a b:=by
 cases e:Nat.beq a b with
 | true=>exact bj (qF Int.ofNat (qH e))
 | false=>exact bB λz=>by rw[Int.ofNat.inj z,Nat.beq_refl] at e;cases e
theorem oct_mod{n:Nat}:q5 (out++[(n % 256).toUInt8])=q5 out++[.int ((n:Int) % 256)]:=by
 unfold q5;rw[List.map_append];show _++[V.int (((n % 256).toUInt8.toNat:Nat):Int)]=_;rw[show(n % 256).toUInt8.toNat=n % 256 from(UInt8.toNat_ofNat' ..).trans (Nat.mod_mod n 256)];rfl
def Wp(rl:Hd)(first:Nat)(rg:List Nat)(mem:List UInt8)(sto:gm)(out:List UInt8)(F:Hp)(W:Fl->Kn)(K:St->Prop):Rs->Prop
 | .stop=>∀fr,W (.ret (.bool false)) fr (room rg mem sto out F)
 | .back=>∀fr,W (.ret (.bool (ai (ah rg 2) first))) fr (room rg mem sto out F)
 | .next rg' mem' out' s=>∀rr,Wtl rr->K (fW rl first rr,room rg' mem' (sto++s) out' F)
theorem bh{p:Hd×O}(h:p∈F):p∈room rg mem sto out F:=.tail _ (.tail _ (.tail _ (.tail _ (.tail _ h))))
theorem Wtl.of{t w x y z u:V}:Wtl [(11,t),(22,w),(89,x),(90,y),(91,z),(92,u)]:=λ_ _ _ _ _ _=>rfl
theorem lwStep{rr:List (Nat×V)}(ok:r.ok)(ht:t<=20)(f:Wtl rr)(hr:RG rg)(hz:ah rg 0=0)(hm:mem.length=3072)(ho:out.length<=500)(hs:sto.length<=900)(m:(.l 33,O.list lw.stops)∈F)
  (q0:Hit lw.stop t->∀fr,W (.ret (.bool false)) fr (room rg mem sto out F)) (q1:¬Hit lw.stop t->Wp rl first rg mem sto out F W K (r.go rg mem out)) :
  aU (t696 (d+2) hd) W E (.tup [.int t,r.v]) (fW rl first rr,room rg mem sto out F) K:=by
 exists ok ht f hr hz hm ho hs m q0 q1,zN d,zB hd,aK E,zh rl,zL F,zr r,zN first,zN t,zL rg,zL mem,zL out,zL sto,zl lw,aK W,zp1 K,zL rr
 cases r with
 | bad=>exact lwA (op:=badS) ht f (bh m) q0 (λ_ fr=>(Classical.em (Hit lw.stop t)).elim (λh=>q0 h fr) λh=>q1 h fr) λ_ h=>nomatch h
 | ret =>
  refine lwA (op:=[114,101,116]) ht f (bh m) q0 nofun λh _=>?_;refine b6 (i:=2) (a9 rfl) hr.len (by decide) ?_;exact q1 h _
 | ecall =>
  refine lwA (op:=[101,99,97,108,108]) ht f (bh m) q0 nofun λh _=>?_;have q:=q1 h;refine b6 (i:=17) (a9 rfl) hr.len (by decide) ?_;dsimp only [Row.go] at q;cases z:Nat.beq (ah rg 17) 1 with
  | false =>
   rw[z] at q;refine aJ (qF not (ieq_nat.trans z)) ?_;exact q _
  | true =>
   rw[z] at q;refine aB (qF not (ieq_nat.trans z)) ?_;refine aT (a9 rfl) rfl ?_;refine bM (a9 rfl) ?_;refine b6 (i:=10) (a9 rfl) hr.len (by decide) ?_;refine cb (aa rfl) (by rw[show(q5 out).length=out.length from qG _];exact qC ho (by decide)) ?_;refine bC (k:=0) (v:=0) (aa rfl) hr.len (by decide) rfl rfl ?_;have q:=q _ (.of (t:=.int t) (w:=Row.ecall.v) (x:=.str [101,99,97,108,108]) (y:=.int 0) (z:=.int 0) (u:=.int 0));unfold room at q;rw[oct_mod,List.append_nil,<-qF iU (set0 hr hz)] at q;exact q
 | addi a b v =>
  refine lwA (op:=[97,100,100,105]) ht f (bh m) q0 nofun λh _=>?_;refine b6 (i:=b) (a9 rfl) hr.len ok.2.1 ?_;refine reckI ?_;refine ks (i:=a) (v:=dy ((ah rg b:Int)+(dy v:Nat))) (aa rfl) hr.len ok.1 ?_;refine bC (k:=0) (v:=0) (aa rfl) (hr.set _).len (by decide) rfl rfl ?_;have q:=q1 h _ (.of (t:=.int t) (w:=(Row.addi a b v).v) (x:=.str [97,100,100,105]) (y:=.int a) (z:=.int b) (u:=.int v));rw[List.append_nil,<-g7 hr hz] at q;exact q
 | alu k a b c =>
  revert q1;refine lt4 ok.1 ?_ ?_ ?_ ?_<;>(
   intro q1;refine lwA ht f (bh m) q0 nofun λh _=>?_;refine b6 (i:=b) (a9 rfl) hr.len ok.2.2.1 ?_;refine b6 (i:=c) (a9 rfl) hr.len ok.2.2.2 ?_
   first
   | refine reck (k:=0) (by decide) (hr.get ok.2.2.1) (hr.get ok.2.2.2) ?_
   | refine reck (k:=1) (by decide) (hr.get ok.2.2.1) (hr.get ok.2.2.2) ?_
   | refine reck (k:=2) (by decide) (hr.get ok.2.2.1) (hr.get ok.2.2.2) ?_
   | refine reck (k:=3) (by decide) (hr.get ok.2.2.1) (hr.get ok.2.2.2) ?_
   refine ks (i:=a) (aa rfl) hr.len ok.2.1 ?_;refine bC (k:=0) (v:=0) (aa rfl) (hr.set _).len (by decide) rfl rfl ?_;have q:∀rr,Wtl rr->K (fW rl first rr,room (bL rg a (qw _ (ah rg b) (ah rg c))) mem (sto++[]) out F):=q1 h;rw[List.append_nil,<-g7 hr hz] at q;exact q _ .of)
 | mem st a b v =>
  cases st with
  | false =>
   refine lwA (op:=[108,119]) ht f (bh m) q0 nofun λh _=>?_;have q:=q1 h;dsimp only [Row.go] at q;refine pz (st:=false) hr hm ok.1 ok.2.1 (qC hs (by decide)) (λe=>?_) (λe=>?_)
   .rw[e] at q;exact q _
   .rw[e] at q;have h4:=jK (b:=aw mem (cJ rg b v - 1024) 4);rw[aQ (hm▸(gb e).h)] at h4;have e4:=oN h4;refine bC (k:=0) (v:=0) (aa rfl) (List.length_set.trans hr.len) (by decide) rfl rfl ?_;have q:∀rr,Wtl rr->K (fW rl first rr,room (bL rg a (bn (aw mem (cJ rg b v - 1024) 4):Nat)) mem (sto++[]) out F):=q;rw[List.append_nil,<-g7 hr hz,e4] at q;exact q _ .of
  | true =>
   refine lwA (op:=[115,119]) ht f (bh m) q0 nofun λh _=>?_;have q:=q1 h;dsimp only [Row.go] at q;refine pz (st:=true) hr hm ok.1 ok.2.1 (qC hs (by decide)) (λe=>?_) (λe=>?_)
   .rw[e] at q;exact q _
   .rw[e] at q;refine bC (k:=0) (v:=0) (aa rfl) hr.len (by decide) rfl rfl ?_;have q:∀rr,Wtl rr->K (fW rl first rr,room rg (ay mem (cJ rg b v - 1024) (f5 4 (ah rg a))) (sto++[(cJ rg b v - 1024,aw mem (cJ rg b v - 1024) 4,f5 4 (ah rg a))]) out F):=q;unfold room at q;rw[<-qF iU (set0 hr hz)] at q;exact q _ .of
end
end
section
section
variable {fr:Fr} {L L':Hp} {d:Nat} {hd:Bool} {E:Hd->Fr->Hp->Prop} {rl:Hd} {Q:V->Fr->Hp->Prop} {F:Hp} {r:Row} {first t sp:Nat} {rg:List Nat} {mem out:List UInt8} {sto:gm} {lw:Lw} {W:Fl->Kn} {rows:List Row} {done:St->Prop} {b:Bool} {w:Wr}
def WQ(W:Fl->Kn)(first:Nat)(sto:gm)(F:Hp)(w:Wr):Prop:=∀fr,W (.ret (.bool (w.b&&ai (ah w.rg 2) first))) fr (room w.rg w.mem (sto++w.s) w.out F)
theorem WQ.stop(q:WQ W first sto F ⟨b,rg,mem,out,[]⟩)(fr:Fr):W (.ret (.bool (b&&ai (ah rg 2) first))) fr (room rg mem sto out F):=(qF (λs=>W _ fr (room rg mem s out F)) (List.append_nil sto)).mp (q fr)
theorem WQ.next{st:gm}(q:WQ W first sto F ⟨w.b,w.rg,w.mem,w.out,st++w.s⟩):WQ W first (sto++st) F w:=λfr=>(qF (λs=>W _ fr (room w.rg w.mem s w.out F)) (List.append_assoc sto st w.s)).mpr (q fr)
theorem Sw.len1{mem':List UInt8}{st:gm}(h:Sw mem mem' st):st.length<=1:=by
 cases h with
 | no=>exact r0 _
 | st=>exact qW _
theorem lwAll(mr:(rl,b7 rows)∈F)(m:(.l 33,O.list lw.stops)∈F)(qd:∀{rr rg mem out sto},(∀fr,W (.ret (.bool false)) fr (room rg mem sto out F))->done (fW rl first rr,room rg mem sto out F)):
  ∀(rest:List Row) (t:Nat) (rg:List Nat) (mem out:List UInt8) (sto:gm) (rr:List (Nat×V)),rows.drop t=rest->(∀r∈rest,r.ok/\r.dr)->Bd sp (t+rest.length)->Iv sp t rg->mem.length=3072->out.length<=10+t->sto.length<=t->Wtl rr ->
   WQ W first sto F (du lw.stop rest t rg mem out)->Lp Prod.snd (aU (t696 (d+2) hd) W E) done (.enu rl t) (fW rl first rr,room rg mem sto out F)
 | [],t,rg,mem,out,sto,rr,e,_,_,_,_,_,_,f,q=>.enil (us:=rows.map Row.v) (bh mr) (by rw[<-List.head?_drop,<-List.map_drop,e];rfl) (qd q.stop)
 | r::rest,t,rg,mem,out,sto,rr,e,hr,B,I,hm,ho,hs,f,q=>by
  have ht:t<=20:=qC (qI t _) B.t;have z:=Row.safe (mem:=mem) (out:=out) ⟨B.lo,B.hi,ht⟩ (hr r (.head _)).1 (hr r (.head _)).2 I;refine .econs (us:=rows.map Row.v) (bh mr) (by rw[<-List.head?_drop,<-List.map_drop,e];rfl) (lwStep (K:=λs=>Lp Prod.snd (aU (t696 (d+2) hd) W E) done (.enu rl (t+1)) s) (hr r (.head _)).1 ht f I.hr I.z hm (qC ho (qC (qN ht 10) (by decide))) (qC hs (qC ht (by decide))) m (λh=>?_) λh=>?_) λ_ h=>h
  .rw[hO h] at q;exact q.stop
  .rw[jz h] at q;revert q z;cases r.go rg mem out with
   | stop=>exact λq _=>q.stop
   | back=>exact λq _=>q.stop
   | next rg' mem' out' st =>
    exact λq z rr' f'=>lwAll mr m qd rest (t+1) rg' mem' out' (sto++st) rr' (by rw[<-List.tail_drop,e];rfl) (λr' m=>hr r' (.tail _ m)) ⟨B.lo,B.hi,qC (qU (Nat.add_right_comm t 1 _)) B.t⟩ z.1 (z.2.1.len hm) (qC z.2.2 (r7 ho)) (by rw[List.length_append];exact Nat.add_le_add hs z.2.1.len1) f' q.next
theorem lawWalk(mr:(rl,b7 rows)∈F)(m:(.l 33,O.list lw.stops)∈F)(hr:∀r∈rows,r.ok/\r.dr)(B:Bd sp (0+rows.length))(I:Iv sp 0 rg)(hm:mem.length=3072)
  (q:∀w,w=du lw.stop rows 0 rg mem []->Q (.bool (w.b&&ai (ah w.rg 2) (ah rg 2))) fr (room w.rg w.mem w.s w.out F)) :
  HK (d+3) hd (.top 696) [.ref rl,.ref (.l 46),.ref (.l 33)] fr (room rg mem [] [] F) Q E:=by
 refine kf rfl ?_;refine aT (a9 rfl) rfl ?_;refine aT (a9 rfl) rfl ?_;refine b6 (i:=2) (a9 rfl) I.hr.len (by decide) ?_;exact lwAll (first:=ah rg 2) mr m (λh=>h ⟨[],[]⟩) rows 0 rg mem [] [] [] rfl hr B I hm (r0 _) (r0 _) (λ_ _ _ _ _ _=>rfl) λfr'=>q _ rfl
end
end
section
section
variable {fr:Fr} {L L':Hp} {d:Nat} {hd:Bool} {E:Hd->Fr->Hp->Prop} {n nl:Hd} {Q:V->Fr->Hp->Prop} {s s' s0:Ms} {F:Hp} {lg:V} {wd:List Nat} {k0 many:Nat} {lw:Lw} {ns:List Int} {code:Bool} {size:Int} {kids:List V} {rows:List Row}
noncomputable def wn(lt:Bool)(o:Option Nat)(rows:List Row)(rg:List Nat)(mem out:List UInt8):Wr:=match lt with
 | true=>du o rows 0 rg mem out
 | false=>⟨false,rg,mem,out,[]⟩
noncomputable def bkB(w:Wr)(k0:Nat):Bool:=w.b&&ai (ah w.rg 2) k0
noncomputable def hv(b:Bool)(w:Wr):V:=match b with
 | true=>.tup [.bool true,.int (ah w.rg 10)]
 | false=>.tup [.bool false,.int 0]
noncomputable def Din(di:Nat)(dc:List (Int×V))(ho:O):Prop:=(di=14/\dc=[])\/(di=15/\ho=.dict [])
noncomputable abbrev j1(lw:Lw)(code:Bool)(ns:List Int)(many:Nat):Bool:=lw.alive&&(code&&Nat.beq ns.length many)
theorem heard_{w:Wr}{lt:Bool}(hk:(((ah s.rg 2:Nat):Int) - 64) / 16*16=(k0:Int))(ok:j2 lw.stop)(g:Go k0 0 rows (s1 s ns k0) [] [])(hr:RG s.rg)(ht:lw.text.length<=1000)(K:Kids F kids many)(m:(nl,O.list (ns.map V.int))∈F)(hn:ns.length<=8)(hmany:many<=8)
  (elt:lt=j1 lw code ns many) (ew:w=wn lt lw.stop rows (s1 s ns k0).rg s.mem s.out)
  (q:∀kn lo wd di dc ho,Din di dc ho->Q (hv (bkB w k0) w) fr (am (aft lw s w kn) lg lo (au wd di dc ho (a_ lw (func code size kids F))))) :
  HK (d+19) false (.top 722) [.ref (.l 22),.ref (.l 40),.ref nl] fr (d4 s lg .hole wd 14 [] .hole lw bd code size kids F) Q E:=by
 exists hk ok g hr ht K m hn hmany elt ew q,zF fr,zN d,aK E,zh nl,aK Q,zm s,zL F,zv lg,zL wd,zN k0,zN many,zl lw,zL ns,zB code,zI size,zL kids,zL rows,zR w,zB lt;refine .dw (kf rfl ?_);cases lt with
 | false =>
  have no:¬(lw.alive=true/\code=true/\ns.length=many):=λz=>by unfold j1 at elt;rw[z.1,z.2.1,z.2.2,Nat.beq_refl] at elt;cases elt
  subst ew;refine pj hk ok g hr ht K m hn hmany rfl (λ_ w' n k=>?_) (λz=>(no z).elim) λz=>(no z).elim;exact⟨70,_,.tail _ (.head _),rfl,_,.cons _ (.cons _ (List.Sublist.append_left (l:=am s lg .hole (au wd 14 [] .hole (a_ lw []))) (.cons _ (.cons _ (.cons _ (.refl _)))))),q s.kn _ _ _ _ _ (.inl ⟨rfl,rfl⟩)⟩
 | true =>
  have ha:=ae elt.symm;have hc:=ae (a8 elt.symm);have he:=qH (a8 (a8 elt.symm));subst hc;refine pj hk ok g hr ht K m hn hmany ew (λz=>(z ⟨ha,rfl,he⟩).elim) (λ_ hb hs kn lo wd dc=>?_) λ_ hb kn lo wd dc w' n k=>?_
  .have q:=q kn lo wd 15 dc _ (.inr ⟨rfl,rfl⟩);rw[show bkB w k0=true from by unfold bkB;rw[hb,hs];exact bj rfl] at q;exact dw0 q
  .have q:=q kn lo wd 15 dc _ (.inr ⟨rfl,rfl⟩);rw[show bkB w k0=false from by
    unfold bkB;cases h:w.b with
    | false=>rfl
    | true=>exact bB λz=>hb ⟨h,Int.ofNat.inj z⟩] at q
   exact⟨70,_,qO (la lw s w lg size kids kn lo wd dc []) (.tail _ (.head _)),rfl,_,List.Sublist.append_left (l:=la lw s w lg size kids kn lo wd dc []) (.cons _ (.cons _ (.refl _))),q⟩
end
end
section
section
variable {fr:Fr} {L L':Hp} {d:Nat} {hd:Bool} {E:Hd->Fr->Hp->Prop} {n nl:Hd} {Q:V->Fr->Hp->Prop} {s:Ms} {F:Hp} {lg:V} {lo ho:O} {wd:List Nat} {di k0:Nat} {dc:List (Int×V)} {lw:Lw} {ns:List Int} {code:Bool} {size:Int} {kids:List V} {rg R:List Nat} {W:Fl->Kn} {done:St->Prop}
noncomputable def cO(F:Hp):Hp:=(.l 46,.hole)::(.l 47,.hole)::(.l 48,.hole)::(.l 49,.hole)::(.l 50,.hole)::F
noncomputable def roomR(rg:List Nat)(F:Hp):Hp:=(.l 46,.hole)::(.l 47,iU rg)::(.l 48,.hole)::(.l 49,.hole)::(.l 50,.hole)::F
theorem jY(m:(n,iU rg)∈L)(hr:rg.length=32)(q:Al (iU rg) L λm L=>Q (.ref m) fr L):HK d hd (.ty 1) [.ref n] fr L Q E:=gW m (by rw[qG,hr];decide) q
noncomputable def fR(nl:Hd)(r:List (Nat×V)):Fr:=⟨(17,.ref (.l 5))::(35,.ref nl)::(15,.ref (.l 47))::r,[]⟩
noncomputable def Rr2(r:List (Nat×V)):Prop:=∀u v,put 196 v (put 11 u r)=[(11,u),(196,v)]
noncomputable def t729(d:Nat)(hd:Bool)(v:V):Ab Fl:=(iT 2 v).bind λvs=>((wp d (Zx.K (Zx.l 11 174255) (Zx.K (Zx.l 196 429055) Zx.Z)) hd).asgs vs).bind λ_=>(wp d (ll (tl Zx.x729)) hd).stms
theorem dF{K:Hp->Hp}{p:Hd×O}(h:p∈K (func code size kids F)):p∈d4 s lg lo wd di dc ho lw K code size kids F:=av (ao (bw h))
theorem argR(m:(nl,O.list (ns.map V.int))∈F)(qd:∀rr,done (fR nl rr,d4 s lg lo wd di dc ho lw bd code size kids (roomR R F))):∀(rest:List Int) (t:Nat) (rg:List Nat) (rr:List (Nat×V)),ns.drop t=rest->t+rest.length<=8->RG rg->sa t rest rg=R->Rr2 rr ->
  Lp Prod.snd (aU (t729 d hd) W E) done (.enu nl t) (fR nl rr,d4 s lg lo wd di dc ho lw bd code size kids (roomR rg F))
 | [],t,rg,rr,e,_,_,e',_=>.enil (us:=ns.map V.int) (dF (.tail _ (.tail _ (.tail _ (bz (.tail _ (.tail _ (.tail _ (.tail _ (.tail _ m)))))))))) (by rw[<-List.head?_drop,<-List.map_drop,e];rfl) ((show rg=R from e')▸qd rr)
 | x::rest,t,rg,rr,e,h8,hr,e',f=>by
  refine .econs (us:=ns.map V.int) (dF (.tail _ (.tail _ (.tail _ (bz (.tail _ (.tail _ (.tail _ (.tail _ (.tail _ m)))))))))) (by rw[<-List.head?_drop,<-List.map_drop,e];rfl) (N:=λs=>Lp Prod.snd (aU (t729 d hd) W E) done (.enu nl (t+1)) s) ?_ λ_ h=>h;refine(show ∀r',r'=_->(wp d (ll (tl Zx.x729)) hd).stms (fR nl r') (d4 s lg lo wd di dc ho lw bd code size kids (roomR rg F)) (oC W λs=>Lp Prod.snd (aU (t729 d hd) W E) done (.enu nl (t+1)) s) E from λr' z=>z▸?_) _ (f (.int t) (.int x));refine bC (k:=10+t) (v:=dy x) (aa rfl) hr.len (qL (Nat.add_lt_add_left (qL (Nat.lt_add_of_pos_right (Nat.succ_pos _)) h8) 10) (by decide)) rfl (b4 x).symm ?_;exact argR m qd rest (t+1) _ _ (by rw[<-List.tail_drop,e];rfl) (qC (qU (Nat.add_right_comm t 1 _)) h8) (hr.set x) e' λ_ _=>rfl
theorem room_(m:(nl,O.list (ns.map V.int))∈F)(hn:ns.length<=8)(hr:RG s.rg)(hm:s.mem.length=3072)(hk:(((ah s.rg 2:Nat):Int) - 64) / 16*16=(k0:Int))
  (q:Q (.ref (.l 46)) fr (d4 s lg lo wd di dc ho lw bd code size kids (room (((sa 0 ns s.rg).set 1 1024).set 2 k0) s.mem [] [] F))) :
  HK (d+1) hd (.top 729) [.ref (.l 5),.ref nl] fr (d4 s lg lo wd di dc ho lw bd code size kids (cO F)) Q E:=by
 exists m hn hr hm hk q,zF fr,zN d,zB hd,aK E,zh nl,aK Q,zm s,zL F,zv lg,zo lo,zo ho,zL wd,zN di,zN k0,zL dc,zl lw,zL ns,zB code,zI size,zL kids;have h1:=sa_rg (ns:=ns) (i:=0) hr;refine kf rfl ?_;refine jY (a9 rfl) hr.len (.fix 47 (aa rfl) ?_);refine argR (R:=sa 0 ns s.rg) m (λrr=>?_) ns 0 s.rg [] rfl ((Nat.zero_add _).symm▸hn) hr rfl λ_ _=>rfl;refine b6 (i:=2) (a9 rfl) h1.len (by decide) ?_;refine bC (k:=1) (v:=1024) (aa rfl) h1.len (by decide) rfl rfl ?_;refine bC (rg:=(sa 0 ns s.rg).set 1 1024) (k:=2) (v:=k0) (aa rfl) (List.length_set.trans h1.len) (by decide) rfl ((qF (λn:Nat=>((n:Int) - 64) / 16*16) (mz (by decide))).trans hk) ?_;refine f_baR (bs:=s.mem) (a9 rfl) (d1 hm) (.fix 48 (aa rfl) ?_);refine .fix 49 (aa rfl) ?_;refine .fix 50 (aa rfl) ?_;refine .fix 46 (aa rfl) ?_;exact q
end
end
section
section
variable {fr:Fr} {L L':Hp} {d:Nat} {hd:Bool} {E:Hd->Fr->Hp->Prop} {n:Hd} {Q:V->Fr->Hp->Prop} {F:Hp} {ns:List Nat} {c:Nat} {k:Wst c} {pr:Nat} {po:O} {v2:Option V} {v3 v4:Option V} {o33:O} {code:Bool} {size:Int} {kids:List V} {W:Fl->Kn}
noncomputable def aV(F:Hp):Hp:=(.l 40,.hole)::(.l 41,.hole)::(.l 42,.hole)::(.l 43,.hole)::F
noncomputable def misc(F:Hp):Hp:=(.l 31,.hole)::(.l 32,.hole)::(.l 51,.hole)::(.l 0,.tab 0)::(.l 1,.cell (some (.ref (.l 44))))::F
noncomputable def LB(v2 v4:Option V)(o33:O)(fn:Hp->Hp)(F:Hp):Hp :=
 (.l 5,.hole)::(.l 6,.hole)::(.l 7,.hole)::(.l 8,.hole)::(.l 9,.hole)::(.l 10,.hole)::(.l 11,.hole)::(.l 12,.hole)::(.l 13,.hole)::(.l 14,.hole)::(.l 15,.hole) ::
 (.l 22,.hole)::(.l 23,.hole)::(.l 24,.hole)::(.l 25,.hole)::(.l 26,.hole)::(.l 27,.hole)::(.l 28,.hole)::(.l 2,.cell v2)::(.l 3,.cell none)::(.l 4,.cell v4)::(.l 33,o33) ::
 (.l 21,.hole)::(.l 29,.hole)::(.l 30,.hole)::bd (fn (cO (misc F)))
noncomputable def Ent(c k a b:Nat)(t:List Nat)(v:V)(L:Hp):Hp:=(.s b,.list [])::(.s a,.list [])::(.s c,.inst 197 (.s k))::(.s k,.ns [(34,.str t),(74,.ref (.s a)),(31,.ref (.s b)),(75,v),(76,.int (-1))])::L
theorem entry{t:List Nat}(q:∀c k a b,Q (.ref (.s c)) fr (Ent c k a b t .non L)):HK (d+2) hd (.top 197) [.str t] fr L Q E:=by
 refine fE rfl rfl (.sym0 λk=>.sym0 λc=>?_);refine dg ?_;refine cr (.inst (.head _) (.tail _ (.head _)) rfl) ⟨[_],_,rfl,rfl⟩ rfl ?_;refine .sym0 λa=>?_;refine cr (.inst (.tail _ (.head _)) (.tail _ (.tail _ (.head _))) rfl) ⟨[_,_],_,rfl,rfl⟩ rfl ?_;refine .sym0 λb=>?_;have o:∀{x y:Hd×O} {j:Nat} {fs:List (Nat×V)},fK 197 j=true->OwnAt (x::y::(.s c,.inst 197 (.s k))::(.s k,.ns fs)::L) (.s c) 197 j (.s k) fs:=.inst (.tail _ (.tail _ (.head _))) (.tail _ (.tail _ (.tail _ (.head _))));refine cr (o rfl) ⟨[_,_,_],_,rfl,rfl⟩ rfl ?_;refine cr (o rfl) ⟨[_,_,_],_,rfl,rfl⟩ rfl ?_;refine cr (o rfl) ⟨[_,_,_],_,rfl,rfl⟩ rfl ?_;exact⟨rfl,q c k a b⟩
theorem LB_perm{A:Hp}{fn:Hp->Hp}:List.Perm (well ns k ((.s pr,po)::(LB v2 v4 o33 fn []++(A++F)))) (A++well ns k ((.s pr,po)::(LB v2 v4 o33 fn []++F))):=qP (well ns k ((.s pr,po)::LB v2 v4 o33 fn [])) A F
theorem putKid{c' k' a b:Nat}{t:List Nat}(hk:kids.length<=100)(q:Q (.ref (.s c')) fr (well ns k ((.s pr,po)::LB v2 v4 o33 (func code size (kids++[.ref (.s c')])) (Ent c' k' a b t (.ref (.l 40)) F)))):
  HK (d+1) hd (.top 180) [.ref (.l 40),.ref (.s c')] fr (Ent c' k' a b t .non (well ns k ((.s pr,po)::LB v2 v4 o33 (func code size kids) F))) Q E:=by
 refine .dp (kf rfl ?_);refine cr (.inst (.tail _ (.tail _ (.head _))) (.tail _ (.tail _ (.tail _ (.head _)))) rfl) ⟨[_,_,_],_,rfl,rfl⟩ rfl ?_;refine bM (as:=kids) (a9 rfl) ?_;refine cb (aa rfl) (qC hk (by decide)) ?_;exact⟨_,LB_perm (A:=Ent c' k' a b t (.ref (.l 40)) []) (fn:=func code size (kids++[.ref (.s c')])),q⟩
theorem Kids.snoc{c':Nat}{cd:Hd}{fs:List (Nat×V)}(m:(.s c',O.inst 197 cd)∈L)(m':(cd,O.ns fs)∈L):∀{vs:List V} {j:Nat},Kids L vs j->(look 34 fs=some (.str dX)->Kids L (vs++[.ref (.s c')]) (j+1))/\(∀{t},look 34 fs=some (.str t)->aF t dX=false->Kids L (vs++[.ref (.s c')]) j):=λK=>by
 induction K with
 | nil=>exact⟨λh=>.yes m m' h .nil,λh h'=>.no m m' h h' .nil⟩
 | yes a b h _ ih=>exact⟨λz=>.yes a b h (ih.1 z),λz z'=>.yes a b h (ih.2 z z')⟩
 | no a b h h' _ ih=>exact⟨λz=>.no a b h h' (ih.1 z),λz z'=>.no a b h h' (ih.2 z z')⟩
end
end
section
section
variable {fr:Fr} {L L':Hp} {d:Nat} {hd:Bool} {E:Hd->Fr->Hp->Prop} {n:Hd} {Q:V->Fr->Hp->Prop} {F:Hp} {ns:List Nat} {c:Nat} {k:Wst c} {pr:Nat} {po:O} {v2:Option V} {v3 v4:Option V} {o33:O} {code:Bool} {size:Int} {kids:List V} {W:Fl->Kn} {many:Nat}
noncomputable def Rq1(i:Nat)(r:List (Nat×V)):Prop:=∀u,put i u r=[(i,u)]
noncomputable def fF(code:Bool)(size:Int)(many:Nat)(r:List (Nat×V)):Fr:=⟨(176,.ref (.l 44))::(193,.bool code)::(118,.int size)::(192,.int many)::(191,.ref (.l 40))::r,[]⟩
noncomputable abbrev fH(ns:List Nat)(k:Wst c)(pr:Nat)(po:O)(v2 v4:Option V)(o33:O)(code:Bool)(size:Int)(kids:List V)(F:Hp):Hp:=well ns k ((.s pr,po)::LB v2 v4 o33 (func code size kids) F)
inductive FnI (ns:List Nat) (k:Wst c) (pr:Nat) (po:O) (v2 v4:Option V) (o33:O) (code:Bool) (size:Int) (many:Nat) (F:Hp) (j:Nat) (x:St):Prop
 | mk (kids:List V) (F':Hp) (rr:List (Nat×V)) (h1:Kids F' kids j) (h2:kids.length<=2*j) (h3:∀p∈F,p∈F') (h4:Rq1 172 rr) (e1:x.1=fF code size many rr) (e2:x.2=fH ns k pr po v2 v4 o33 code size kids F')
theorem fnLoop(hm:many<=6)(q:∀kids F' rr,Kids F' kids many->(∀p∈F,p∈F')->W (.ret (.tup [.ref (.l 40),.int many])) (fF code size many rr) (fH ns k pr po v2 v4 o33 code size kids F')):
  (wp (d+3) (tl (tl Zx.x703)) hd).stms (fF code size many []) (fH ns k pr po v2 v4 o33 code size [] F) W E:=by
 exists k hm q,zN d,zB hd,aK E,zL F,zL ns,zN c,zN pr,zo po,zO v2,zO v4,zo o33,zB code,zI size,aK W,zN many;refine eV ?_;refine⟨ff (a:=0) (by decide) (r6 hm (by decide)),?_⟩;show Lp Prod.snd _ _ (.rng 0 ((many:Int) - 0).toNat) _;refine lp_t0 (n:=many) (I:=FnI ns k pr po v2 v4 o33 code size many F) (.mk [] F [] .nil (r0 _) (λ_ h=>h) (λ_=>rfl) rfl rfl) (λj x Q E K hj i q=>?_) (λx i=>?_)
 .cases i with
  | mk kids F' rr h1 h2 h3 h4 e1 e2 =>
   obtain⟨fr,L⟩:=x;subst e1 e2;have l8:kids.length<=80:=qC h2 (qC (qS 2 (qC (Nat.le_of_lt hj) hm)) (by decide));refine(show ∀r',r'=_->(wp (d+3) (qc (tl (tl Zx.x703))) hd).stms (fF code size many r') (fH ns k pr po v2 v4 o33 code size kids F') (oC Q K) E from λr' e=>e▸?_) _ (h4 (.int j));refine entry λc1 k1 a1 b1=>?_;refine putKid (qC l8 (by decide)) ?_;have k1:=(Kids.snoc (L:=Ent c1 k1 a1 b1 dX (.ref (.l 40)) F') (fs:=[(34,.str dX),(74,.ref (.s a1)),(31,.ref (.s b1)),(75,.ref (.l 40)),(76,.int (-1))]) (.tail _ (.tail _ (.head _))) (.tail _ (.tail _ (.tail _ (.head _)))) (h1.mono λ_ h=>.tail _ (.tail _ (.tail _ (.tail _ h))))).1 rfl;have l2:∀{v:V},(kids++[v]).length<=2*j+1:=λ{v}=>by rw[List.length_append];exact r7 h2
   by_cases h:j=1
   .refine aJ (bj (qF Int.ofNat h)) ?_;refine entry λc2 k2 a2 b2=>?_;refine putKid (qC l2 (qC (r7 (qS 2 (qC (Nat.le_of_lt hj) hm))) (by decide))) ?_;exact q _ (.mk _ _ [(172,.int j)] ((Kids.snoc (L:=Ent c2 k2 a2 b2 [118,97,114,105,97,98,108,101] (.ref (.l 40)) _) (.tail _ (.tail _ (.head _))) (.tail _ (.tail _ (.tail _ (.head _)))) (k1.mono λ_ h=>.tail _ (.tail _ (.tail _ (.tail _ h))))).2 rfl rfl) (by rw[List.length_append];exact r7 l2) (λp h=>.tail _ (.tail _ (.tail _ (.tail _ (.tail _ (.tail _ (.tail _ (.tail _ (h3 p h))))))))) (λ_=>rfl) rfl rfl)
   .refine aB (bB λz=>h (Int.ofNat.inj z)) ?_;exact q _ (.mk _ _ [(172,.int j)] k1 (Nat.le_succ_of_le l2) (λp h=>.tail _ (.tail _ (.tail _ (.tail _ (h3 p h))))) (λ_=>rfl) rfl rfl)
 .cases i with
  | mk kids F' rr h1 h2 h3 h4 e1 e2 =>
   obtain⟨fr',L⟩:=x;subst e1 e2;exact q kids F' rr h1 h3
noncomputable def fk_(fs:List (Nat×V))(a b:O)(F:Hp):Hp:=(.l 40,.inst 197 (.l 41))::(.l 41,.ns fs)::(.l 42,a)::(.l 43,b)::F
theorem qb(hn:ns.length<=60)(hc:c<=9000)(q:∀(k':Wst (c+1)) many kids F',many<=6->Kids F' kids many->(∀p∈F,p∈F')->Q (.tup [.ref (.l 40),.int (many:Nat)]) fr (fH ns k' pr po v2 v4 o33 code size kids F')):
  HK (d+4) hd (.top 703) [.ref (.l 44),.bool code,.int size] fr (well ns k ((.s pr,po)::LB v2 v4 o33 aV F)) Q E:=by
 exists k hn hc q,zF fr,zN d,zB hd,aK E,aK Q,zL F,zL ns,zN c,zN pr,zo po,zO v2,zO v4,zo o33,zB code,zI size;refine kf rfl ?_;refine fE rfl rfl (.fix 41 (aa rfl) (.fix 40 (L':=well ns k ((.s pr,po)::LB v2 v4 o33 (fk_ [] .hole .hole) F)) (aa rfl) ?_));refine dg ?_;refine .fix 42 (L':=well ns k ((.s pr,po)::LB v2 v4 o33 (fk_ [(34,.str [115,117,98,112,114,111,103,114,97,109])] (.list []) .hole) F)) (aa rfl) ?_;refine .fix 43 (L':=well ns k ((.s pr,po)::LB v2 v4 o33 (fk_ [(34,.str [115,117,98,112,114,111,103,114,97,109]),(74,.ref (.l 42))] (.list []) (.list [])) F)) (aa rfl) ?_;refine⟨rfl,?_⟩;refine draw (k:=k) (F:=(.s pr,po)::LB v2 v4 o33 (func false size []) F) (size:=7) hn hc (by decide) λk' many hm=>?_;have fin:(wp (d+3) (tl (tl Zx.x703)) hd).stms (fF code size many []) (fH ns k' pr po v2 v4 o33 code size [] F) (Rt Q fr) (λn _ L=>E n fr L):=fnLoop (Nat.le_of_lt_succ hm) λkids F' rr K h=>q k' many kids F' (Nat.le_of_lt_succ hm) K h;cases code with
 | false=>exact fin
 | true =>
  refine kf rfl ?_;refine bM (as:=[]) (a9 rfl) ?_;refine cb (aa rfl) (r0 _) ?_;refine kf rfl ?_;refine bM (a9 rfl) ?_;refine cb (aa rfl) (r9 rfl) ?_;exact fin
end
end
section
section
variable {fr:Fr} {L L':Hp} {d:Nat} {hd:Bool} {E:Hd->Fr->Hp->Prop} {n:Hd} {Q:V->Fr->Hp->Prop} {F X A:Hp} {ns:List Nat} {c:Nat} {k:Wst c} {pr t1:Nat} {po o1:O} {v2 v4:Option V} {o33:O} {text w:List UInt8} {low:Int} {s:Ms} {lg:V} {lo:O} {t:Nat} {f:V} {us:List V}
theorem HK.turn(s:List.Perm L' L)(h:HK d hd f us fr L' (Dp Q) (Dp E)):HK d hd f us fr L Q E:=.dp λg w gv vs e1 e2 r rs z=>h (w.perm s) e1 e2 r rs (.mk z.P z.X ⟨λw' a b l=>z.ok w' a b l,λw' n e l=>z.ex w' n e l⟩)
noncomputable def cA(F:Hp):Hp:=(.l 5,.hole)::(.l 6,.hole)::(.l 7,.hole)::(.l 8,.hole)::(.l 9,.hole)::(.l 10,.hole)::(.l 11,.hole)::F
noncomputable def eM(F:Hp):Hp:=(.l 12,.hole)::(.l 13,.hole)::(.l 14,.hole)::(.l 15,.hole)::F
noncomputable def bR(text:List UInt8)(low:Int)(F:Hp):Hp:=(.l 21,.inst 247 (.l 29))::(.l 29,.ns [(40,.int 1024),(13,.int 1024),(41,.bytes text),(45,.ref (.l 30)),(81,.int 3072),(82,.ref (.l 31)),(83,.ref (.l 32)),(42,.int low)])::(.l 30,.list [.tup [.int 1536,.bytes p_]])::F
noncomputable def mI(rg:List Nat)(mem:List UInt8):Ms:=⟨rg,mem,1024,0,false,[],[]⟩
noncomputable def rg0:List Nat:=List.replicate 32 0
noncomputable def me0:List UInt8:=List.replicate 3072 0
noncomputable def mk_(fs:List (Nat×V))(a b c e:O)(F:Hp):Hp:=(.l 5,.inst 484 (.l 6))::(.l 6,.ns fs)::(.l 7,a)::(.l 8,b)::(.l 9,c)::(.l 10,e)::(.l 11,.hole)::F
theorem machine_(q:Q (.ref (.l 5)) fr (am (mI rg0 me0) .non .hole F)):HK (d+2) hd (.top 484) [.int 1024,.int 3072] fr (cA F) Q E:=by
 revert q;revert fr d hd E Q F;refine @al6 _ _ _ _ _ _ zF zN zB aK aK zL ?P ((?f:∀a b c d e f,?P a b c d e f) _ _ _ _ _ _);intro fr d hd E Q F q;refine .dw (fE rfl rfl (.fix 6 (aa rfl) (.fix 5 (L':=mk_ [] .hole .hole .hole .hole F) (aa rfl) ?_)));refine dg ?_;refine f_baN (j:=3072) (by decide) (.fix 8 (L':=mk_ [(40,.int 1024),(118,.int 3072)] .hole (.barr me0) .hole .hole F) (aa rfl) ?_);refine .sym0 λm=>?_;refine b_rep (.head _) (by decide) (by decide) (.fix 7 (L':=(.s m,.list [.int 0])::mk_ [(40,.int 1024),(118,.int 3072),(119,.ref (.l 8))] (iU rg0) (.barr me0) .hole .hole F) (aa rfl) ?_);refine f_ba0 (.fix 9 (L':=(.s m,.list [.int 0])::mk_ [(40,.int 1024),(118,.int 3072),(119,.ref (.l 8)),(15,.ref (.l 7)),(18,.int 1024)] (iU rg0) (.barr me0) (.barr []) .hole F) (aa rfl) ?_);refine .fix 10 (aa rfl) ?_;exact⟨rfl,_,.cons _ (.refl _),q⟩
end
end
section
section
variable {fr:Fr} {d:Nat} {hd:Bool} {E:Hd->Fr->Hp->Prop} {Q:V->Fr->Hp->Prop} {F A:Hp} {text w:List UInt8} {low:Int} {s:Ms} {lg:V} {lo:O} {t:Nat}
theorem loadA{i:Int}(A:Hp)(hm:s.mem.length=3072)(h:Ad i t w.length)(q:Q .non fr (A++am (s.sMem (ay s.mem t w)) lg lo F)):HK (d+2) hd (.top 383) [.ref (.l 5),.int i,.bytes w] fr (A++am s lg lo F) Q E :=
 .turn (qP (am s lg lo []) A F) (load hm h ⟨_,qP A (am (s.sMem (ay s.mem t w)) lg lo []) F,q⟩)
theorem machineA(A:Hp)(q:Q (.ref (.l 5)) fr (A++am (mI rg0 me0) .non .hole F)):HK (d+2) hd (.top 484) [.int 1024,.int 3072] fr (A++cA F) Q E :=
 .turn (qP (cA []) A F) (machine_ ⟨_,qP A (am (mI rg0 me0) .non .hole []) F,q⟩)
noncomputable def mem1(text:List UInt8):List UInt8:=ay me0 0 text
noncomputable def gg(text:List UInt8):List UInt8:=ay (mem1 text) 512 p_
theorem fy(ht:text.length<=500):(mem1 text).length=3072:=(b8 (by rw[Nat.zero_add];exact qC ht (r9 (show Nat.ble 500 (List.replicate 3072 (0:UInt8)).length=true by rw[List.length_replicate];rfl)))).trans List.length_replicate
theorem fz(ht:text.length<=500):(gg text).length=3072:=(b8 (by rw[fy ht];decide)).trans (fy ht)
noncomputable def tg_(fs:List (Nat×V))(a:O)(F:Hp):Hp:=(.l 12,.inst 642 (.l 13))::(.l 13,.ns fs)::(.l 14,a)::(.l 15,.hole)::F
theorem target_(ht:text.length<=500)(q:Q (.ref (.l 12)) fr (am (mI (rg0.set 2 4096) (gg text)) .non .hole (au [] 14 [] .hole (bR text low F)))):HK (d+5) hd (.top 642) [.ref (.l 21)] fr (cA (eM (bR text low F))) Q E:=by
 exists ht q,zF fr,zN d,zB hd,aK E,aK Q,zL F,zL text,zI low;refine .dw (fE rfl rfl (.fix 13 (aa rfl) (.fix 12 (L':=cA (tg_ [] .hole (bR text low F))) (aa rfl) ?_)));refine dg ?_;refine .sym0 λt=>?_;refine kf rfl ?_;refine machineA [(.s t,.dict [])] (F:=tg_ [(39,.ref (.l 21)),(150,.ref (.s t)),(9,.str [])] .hole (bR text low F)) ?_;refine loadA [(.s t,.dict [])] (s:=mI rg0 me0) (t:=0) List.length_replicate (.nat (t:=0) (by rw[Nat.zero_add];exact qC ht (by decide))) ?_;refine aI (a9 rfl) rfl ?_;refine loadA [(.s t,.dict [])] (s:=mI rg0 (mem1 text)) (t:=512) (fy ht) (.nat (t:=512) (m:=16) (by decide)) ?_;refine .nil (a9 rfl) rfl ?_;refine bC (rg:=rg0) (k:=2) (v:=4096) (aa rfl) rfl (by decide) rfl rfl ?_;refine .fix 14 (L':=(.s t,.dict [])::am (mI (rg0.set 2 4096) (gg text)) .non .hole (tg_ [(39,.ref (.l 21)),(150,.ref (.s t)),(9,.str []),(17,.ref (.l 5))] (.dict []) (bR text low F))) (aa rfl) ?_;exact⟨rfl,_,.cons _ (.refl _),q⟩
end
end
section
section
variable {fr:Fr} {L:Hp} {d:Nat} {hd:Bool} {E:Hd->Fr->Hp->Prop} {Q:V->Fr->Hp->Prop} {F A:Hp} {ns:List Nat} {c:Nat} {k:Wst c} {pr:Nat} {po:O} {rg:List Nat} {mem:List UInt8} {G:O->Hp} {W:Fl->Kn}
theorem lp_c{σ:Type}{hp:σ->Hp}{turn:V->σ->(σ->Prop)->Prop}{done:σ->Prop}{I:Nat->σ->Prop}{n:Nat}(h:∀k s,k<n->I k s->turn (.int (k:Nat)) s (I (k+1)))(q:∀s,I n s->done s):∀(j k:Nat) (s:σ),k+j=n->I k s->Lp hp turn done (.rng (k:Nat) j) s
 | 0,k,s,e,i=>.rnil (q s (e▸i))
 | j+1,k,s,e,i=>.rcons (h k s (e▸Nat.lt_add_of_pos_right (Nat.succ_pos j)) i) λs' i'=>lp_c h q j (k+1) s' ((Nat.add_right_comm k 1 j).trans e) i'
theorem RG.setN{v i:Nat}(h:RG rg)(hv:v<4294967296):RG (rg.set i v):=oN hv▸h.set (v:Int)
structure OcI (j:Nat) (l:List V):Prop where
 ex:∃is:List Int,l=is.map V.int/\is.length=j/\∀n∈is,0<=n/\n<256
theorem OcI.snoc{j:Nat}{l:List V}(h:OcI j l){i:Int}:OcI (j+1) (l++[.int (i % 256)]):=by
 refine nn λno=>?_;obtain⟨is,e,el,hb⟩:=h;refine no ?_;exact⟨is++[i % 256],by rw[e,List.map_append];rfl,by rw[List.length_append,el];rfl,λn m=>(List.mem_append.mp m).elim (hb n) λm=>by cases m with|head=>exact⟨Int.emod_nonneg _ (by decide),Int.emod_lt_of_pos _ (by decide)⟩|tail _ m=>cases m⟩
noncomputable abbrev laH(ns:List Nat)(k:Wst c)(A:Hp)(rg:List Nat)(mem:List UInt8)(F:Hp):Hp:=well ns k (A++am (mI rg mem) .non .hole F)
noncomputable def laF(r:List (Nat×V)):Fr:=⟨(176,.ref (.l 44))::(17,.ref (.l 5))::r,[]⟩
inductive LaI (ns:List Nat) (c:Nat) (A:Hp) (mem:List UInt8) (F:Hp) (j:Nat) (x:St):Prop
 | mk (k:Wst (c+j)) (rg:List Nat) (r:List (Nat×V)) (hr:RG rg) (hz:ah rg 0=0) (f:Rq1 11 r) (e1:x.1=laF r) (e2:x.2=laH ns k A rg mem F)
theorem tn_loc{i n:Nat}{m:Ab Fl}{QQ:Fl->Kn}{EE:Hd->Kn}{v:V}{K:St->Prop}(h:m (fr.set i v) L (oC QQ K) EE):aU (λv=>((wp d (Zx.l i n) hd).asg v).bind λ_=>m) QQ EE v (fr,L) K:=h
theorem laTurn{j:Nat}{x:St}(hn:ns.length<=60)(hc:c<=8000)(hj:1+j<32)(i:LaI ns c [(.s pr,po)] mem F j x){QQ:Fl->Kn}{EE:Hd->Kn}{K:St->Prop}(q:∀x,LaI ns c [(.s pr,po)] mem F (j+1) x->K x):aU (λv=>((wp (d+1) (Zx.l 11 174238) hd).asg v).bind λ_=>(wp (d+1) (qc Zx.x708) hd).stms) QQ EE (.int ((1+j:Nat):Int)) x K:=by
 exists hn hc hj i q,zN d,zB hd,zL F,zL ns,zN c,zN pr,zo po,zL mem,zN j,(zx zF zL) x,aK QQ,aK EE,zp1 K;cases i with
 | mk k rg r hr hz f e1 e2 =>
  obtain⟨fr',L⟩:=x;subst e1 e2;refine tn_loc ?_;refine(show ∀r',r'=_->(wp (d+1) (qc Zx.x708) hd).stms (laF r') (laH ns k [(.s pr,po)] rg mem F) (oC QQ K) EE from λr' z=>z▸?_) _ (f (.int ((1+j:Nat):Int)));have fin:∀(k':Wst (c+(j+1))) (v:Int),K (laF [(11,.int ((1+j:Nat):Int))],laH ns k' [(.s pr,po)] (rg.set (1+j) (dy v)) mem F):=λk' v=>q _ (.mk k' _ _ (hr.set v) ((cx (λz=>Nat.succ_ne_zero j ((Nat.add_comm j 1).trans z))).trans hz) (λ_=>rfl) rfl rfl);cases z:ai (((1+j:Nat):Int) % 5) 0 with
  | true =>
   refine aJ z ?_;refine draw (k:=k) (F:=(.s pr,po)::am (mI rg mem) .non .hole F) (size:=2147483647) hn (qC (Nat.add_le_add hc (Nat.le_of_lt (r6 (Nat.le_add_left j 1) hj))) (by decide)) (by decide) λk' v _=>?_;refine bC (rg:=rg) (k:=1+j) (v:=dy ((v:Int)*2)) (aa rfl) hr.len hj rfl (b4 _).symm ?_;exact fin k' _
  | false =>
   refine aB z ?_;refine bW (cw (qC (Nat.le_of_lt hj) (by decide))) ?_;refine bC (rg:=rg) (k:=1+j) (v:=dy (77*((1+j:Nat):Int)*2)) (aa rfl) hr.len hj rfl (b4 _).symm ?_;exact fin (k.up (Nat.le_succ _)) _
end
end
section
section
variable {fr:Fr} {L:Hp} {d:Nat} {hd:Bool} {E:Hd->Fr->Hp->Prop} {Q:V->Fr->Hp->Prop} {F A:Hp} {ns:List Nat} {c:Nat} {k:Wst c} {pr:Nat} {po:O} {rg:List Nat} {mem:List UInt8} {G:O->Hp} {W:Fl->Kn} {r:List (Nat×V)}
noncomputable def lgL:List V:=[.tup [.str pcS,.int 1024]]
inductive LgO:V->O->Prop
 | no:LgO .non .hole
 | yes:LgO (.ref (.l 51)) (.list lgL)
theorem Chg.app{A:Hp}{n:Hd}{o x:O}{L':Hp}(h:Chg L n o x L'):Chg (A++L) n o x (A++L'):=by
 refine nn λno=>?_;obtain⟨l,r,e1,e2⟩:=h;refine no ?_;exact⟨A++l,r,by rw[e1,List.append_assoc],by rw[e2,List.append_assoc]⟩
structure SpO (rg:List Nat):Prop where
 hr:RG rg
 z:ah rg 0=0
 sp:∃r,r<150/\ah rg 2=3200+4*r
noncomputable def msL(rg:List Nat)(mem:List UInt8)(pc:Nat)(st:Int):Ms:=⟨rg,mem,pc,st,false,[],[]⟩
theorem comp_oct{done:Sc->Prop}{cel:List (Nat×Hd)}{n:Nat}(q:∀l,OcI n l->done (l,L))(hn:n<=1024):
  Lp Prod.snd (iA (.ret true) (wp d (Zx.B .mod (Zx.B .add (Zx.B .mul (Zx.n 7 106341) (Zx.l 11 193141) 526341) (Zx.B .fdiv (Zx.l 11 196641) (Zx.n 256 284841) 784641) 1534341) (Zx.n 256 289741) 2205641) hd).val 11 cel) done (.rng 0 n) ([],L):=by
 refine lp_c (I:=λj (s:Sc)=>OcI j s.1/\s.2=L) (λj s hj i=>?_) (λs i=>?_) n 0 ([],L) (Nat.zero_add n) ⟨⟨[],rfl,rfl,nofun⟩,rfl⟩
 .obtain⟨l,L2⟩:=s;obtain⟨i1,i2⟩:=i;subst i2;refine⟨?_,?_⟩
  .obtain⟨is,e,el,_⟩:=i1;exact e▸(by rw[qG,el];exact qC (Nat.le_of_lt (qL hj hn)) (by decide))
  refine bW (cw (qC (Nat.le_of_lt (qL hj hn)) (by decide))) ?_;exact⟨i1.snoc,rfl⟩
 .obtain⟨l,L2⟩:=s;obtain⟨i1,i2⟩:=i;subst i2;exact q l i1
end
end
section
section
variable {fr:Fr} {L:Hp} {d:Nat} {hd:Bool} {E:Hd->Fr->Hp->Prop} {Q:V->Fr->Hp->Prop} {F A:Hp} {ns:List Nat} {c:Nat} {k:Wst c} {pr:Nat} {po:O} {rg:List Nat} {mem:List UInt8} {G:O->Hp} {W:Fl->Kn} {r:List (Nat×V)}
theorem byL{l:List V}{j:Nat}{n:Hd}(o:OcI j l)(hj:j<=1024)(m:(n,O.list l)∈L)(q:∀bs:List UInt8,bs.length=j->Q (.bytes bs) fr L):HK d false (.ty 3) [.ref n] fr L Q E:=by
 refine nn λno=>?_;obtain⟨is,e,el,hb⟩:=o;refine no ?_;subst e;exact f_byL m hb (el▸qC hj (by decide)) (q _ ((qG _).trans el))
theorem laEnd(hn:ns.length<=60)(hc:c<=8000)(hG:∀{x},Chg (G .hole) (.l 51) .hole x (G x))(hr:RG rg)(hz:ah rg 0=0)(hm:mem.length=3072)
  (q:∀(k':Wst (c+4)) rg bs pc st lg lo t l fr,SpO rg->bs.length=1024->LgO lg lo->W .next fr (well ns k' ((.s pr,po)::(.s t,l)::am (msL rg (ay mem 2048 bs) pc st) lg .hole (G lo)))) :
  (wp (d+2) (tl Zx.x708) false).stms (laF r) (laH ns k [(.s pr,po)] rg mem (G .hole)) W E:=by
 exists k G hn hc hG hr hz hm q,zN d,aK E,zL ns,zN c,zN pr,zo po,zL rg,zL mem,aK W,zL r;have c1:∀{j},j<=4->c+j<=9000:=λh=>qC (Nat.add_le_add hc h) (by decide);refine draw (k:=k) (F:=(.s pr,po)::am (mI rg mem) .non .hole (G .hole)) (size:=150) hn (c1 (j:=0) (by decide)) (by decide) λk1 r1 h1=>?_;have lt:3200+4*r1<4294967296:=qL (Nat.add_lt_add_left (Nat.mul_lt_mul_of_pos_left h1 (by decide:0<4)) 3200) (by decide);have hr2:=hr.setN (i:=2) lt;have sp:SpO (rg.set 2 (3200+4*r1)):=⟨hr2,(cx (by decide)).trans hz,r1,h1,dQ (hr.len▸(by decide))⟩;refine bW (cw (qC (Nat.le_of_lt h1) (by decide))) ?_;refine bC (rg:=rg) (k:=2) (v:=3200+4*r1) (aa rfl) hr.len (by decide) rfl rfl ?_;refine eV ?_;refine⟨rfl,?_⟩;refine comp_oct (n:=1024) (λl ol=>?_) (qW _);refine .sym (well ns k1 [(.s pr,po)]) (am (mI (rg.set 2 (3200+4*r1)) mem) .non .hole (G .hole)) rfl λt=>?_;refine byL ol (qW _) (.tail _ (.tail _ (.tail _ (.head _)))) λbs hb=>?_;refine loadA (well ns k1 [(.s pr,po),(.s t,.list l)]) (s:=mI (rg.set 2 (3200+4*r1)) mem) (t:=2048) hm (.nat (t:=2048) (hb▸(by decide))) ?_;refine draw (k:=k1) (F:=(.s pr,po)::(.s t,.list l)::am (mI (rg.set 2 (3200+4*r1)) (ay mem 2048 bs)) .non .hole (G .hole)) (size:=3) hn (c1 (j:=1) (by decide)) (by decide) λk2 r2 h2=>?_;refine bW (cw (qC (Nat.le_of_lt h2) (by decide))) ?_;refine draw (k:=k2) (F:=(.s pr,po)::(.s t,.list l)::am ((mI (rg.set 2 (3200+4*r1)) (ay mem 2048 bs)).sPc (1024+4*r2)) .non .hole (G .hole)) (size:=5) hn (c1 (j:=2) (by decide)) (by decide) λk3 r3 h3=>?_;refine draw (k:=k3) (F:=(.s pr,po)::(.s t,.list l)::am (msL (rg.set 2 (3200+4*r1)) (ay mem 2048 bs) (1024+4*r2) r3) .non .hole (G .hole)) (size:=2) hn (c1 (j:=3) (by decide)) (by decide) λk4 r4 h4=>?_;by_cases e:r4=0
 .refine aJ (bj (qF Int.ofNat e)) ?_;refine .fix 51 (Chg.app (A:=well ns k4 ((.s pr,po)::(.s t,.list l)::am (msL (rg.set 2 (3200+4*r1)) (ay mem 2048 bs) (1024+4*r2) r3) .non .hole [])) hG) ?_;exact q k4 _ bs (1024+4*r2) r3 _ _ t _ _ sp hb .yes
 .refine aB (bB λz=>e (Int.ofNat.inj z)) ?_;exact q k4 _ bs (1024+4*r2) r3 _ _ t _ _ sp hb .no
inductive LaJ (ns:List Nat) (c:Nat) (A:Hp) (mem:List UInt8) (F:Hp) (j:Nat) (x:St):Prop
 | mk (i:Nat) (e:j=1+i) (h:LaI ns c A mem F i x)
theorem laid_(hn:ns.length<=60)(hc:c<=7000)(hG:∀{x},Chg (G .hole) (.l 51) .hole x (G x))(hr:RG rg)(hz:ah rg 0=0)(hm:mem.length=3072)
  (q:∀rg bs pc st lg lo,SpO rg->bs.length=1024->LgO lg lo->Q .non fr ((.s pr,po)::am (msL rg (ay mem 2048 bs) pc st) lg .hole (G lo))) :
  HK (d+3) false (.top 708) [.ref (.l 44),.ref (.l 5)] fr (laH ns k [(.s pr,po)] rg mem (G .hole)) Q E:=by
 exists k G hn hc hG hr hz hm q,zF fr,zN d,aK E,aK Q,zL ns,zN c,zN pr,zo po,zL rg,zL mem;refine .dw (kf rfl ?_);refine jX ?_;refine⟨rfl,?_⟩;refine lp_c (hp:=Prod.snd) (I:=LaJ ns c [(.s pr,po)] mem (G .hole)) (n:=32) (λj x hj i=>?_) (λx i=>?_) 31 1 _ rfl (.mk 0 rfl (.mk k rg [] hr hz (λ_=>rfl) rfl rfl))
 .cases i with
  | mk i e h =>
   subst e;exact laTurn hn (qC hc (by decide)) hj h λx i'=>.mk (i+1) rfl i'
 .cases i with
  | mk i e h =>
  cases h with
  | mk k rg r hr hz f e1 e2 =>
   cases Nat.add_left_cancel (n:=1) (m:=31) e;obtain⟨fr',L⟩:=x;subst e1 e2;refine laEnd hn (qC (qQ hc 31) (by decide)) hG hr hz hm λk' rg bs pc st lg lo t l fr' h1 h2 h3=>?_;exact⟨_,.cons _ (.cons _ (.cons_cons _ (.cons _ (.refl _)))),q rg bs pc st lg lo h1 h2 h3⟩
end
end
section
section
variable {fr:Fr} {L:Hp} {d:Nat} {hd:Bool} {E:Hd->Fr->Hp->Prop} {Q:V->Fr->Hp->Prop} {P:Bool->Fr->Hp->Prop} {F A:Hp} {s:Ms} {lg lv:V} {lo:O} {n m:Hd} {k l:Nat} {rg:List Nat} {a b:V} {x:PyData}
inductive ShO (rg:List Nat) (r:Nat):V->V->Hp->Prop
 | no:ShO rg r .non .non [(.s r,iU rg)]
 | yes (l:Nat):ShO rg r (.ref (.l 51)) (.ref (.s l)) [(.s r,iU rg),(.s l,.list lgL)]
noncomputable def shV(s:Ms)(r:Nat)(lv:V):V:=.tup [.ref (.s r),.int s.pc,.int s.st,.bool s.dn,lv]
theorem shown_{lo2:O}(hr:s.rg.length=32)(hl:LgO lg lo)(m:(.l 51,lo)∈F)(q:∀r lv P,ShO s.rg r lg lv P->Q (shV s r lv) fr (P++am s lg lo2 F)):HK (d+1) hd (.top 715) [.ref (.l 5)] fr (am s lg lo2 F) Q E:=by
 exists hr hl m q,zF fr,zN d,zB hd,aK E,aK Q,zL F,zm s,zv lg,zo lo,zo lo2;refine kf rfl ?_;cases hl with
 | no =>
  refine jY (a9 rfl) hr (.sym0 λr=>?_);exact q r _ _ .no
 | yes =>
  refine gW (as:=lgL) (.tail _ (.tail _ (.tail _ (.tail _ (.tail _ (.tail _ (.tail _ m))))))) (r9 rfl) (.sym0 λl=>?_);refine jY (.tail _ (a9 rfl)) hr (.sym0 λr=>?_);exact q r _ _ (.yes l)
theorem jL(h1:Rd L k a x)(h2:Rd L l b x)(hk:k<=19)(hl:l<=19)(hx:x.canLay0=true)(q:P false fr L):HC .ne a b fr L P E:=o_ned h1 h2 hk hl ((SeqAt.eqv_refl x hx).symm▸q)
theorem o_sameE(h1:Rd L k a x)(h2:Rd L l b x)(hk:k<=19)(hl:l<=19)(hx:x.canLay0=true)(q:P true fr L):HC .eq a b fr L P E:=o_eqd h1 h2 hk hl ((SeqAt.eqv_refl x hx).symm▸q)
theorem ic:∀{l:List Int},PyData.canLayAll0 (l.map .int)=true
 | []=>rfl
 | _::r=>by
  rw[List.map_cons,PyData.canLayAll0,ic (l:=r)];rfl
noncomputable def lgD:PyData:=.list [.tuple [.str ⟨#[112,99]⟩,.int 1024]]
theorem rd_lg(m:(n,O.list lgL)∈L):Rd L 2 (.ref n) lgD:=mD m (aG (g8 (aG (mB rfl) (aG ca bD))) bD)
theorem rd_rg(m:(n,iU rg)∈L):Rd L 1 (.ref n) (.list ((rg.map λ(x:Nat)=>(x:Int)).map .int)):=mD (us:=(rg.map λ(x:Nat)=>(x:Int)).map V.int) (by rw[List.map_map];exact m) hY
theorem Rd.up(h:Rd L k a x)(z:k<=l):Rd L l a x:=λR r=>have p:=h R r;⟨p.rd,p.lay,qC p.dep z⟩
theorem om{r:Nat}{d:PyData}(m:(.s r,iU s.rg)∈L)(h:Rd L 2 lv d):Rd L 3 (shV s r lv) (.tuple [.list ((s.rg.map λ(x:Nat)=>(x:Int)).map .int),.int s.pc,.int s.st,.bool s.dn,d]):=g8 (aG (Rd.up (rd_rg m) (by decide)) (aG ca (aG ca (aG fh (aG h bD)))))
theorem lay_sh{i j:Int}{b:Bool}{d:PyData}{is:List Int}(h:d.canLay0=true):(PyData.tuple [.list (is.map .int),.int i,.int j,.bool b,d]).canLay0=true:=by
 show PyData.canLayAll0 _=true;rw[PyData.canLayAll0,PyData.canLayAll0,PyData.canLayAll0,PyData.canLayAll0,PyData.canLayAll0,h,show PyData.canLay0 (.list (is.map .int))=true from ic];rfl
theorem o_sh{r r':Nat}{lv':V}{P1 P2:Hp}(h1:ShO s.rg r lg lv P1)(h2:ShO s.rg r' lg lv' P2)(z1:∀p∈P1,p∈L)(z2:∀p∈P2,p∈L)(q:P false fr L):HC .ne (shV s r lv) (shV s r' lv') fr L P E:=by
 exists h1 h2 z1 z2 q,zF fr,zL L,aK E,aK P,zm s,zv lg,zv lv,zN r,zN r',zv lv',zL P1,zL P2;cases h1 with
 | no=>cases h2 with|no=>exact jL (om (z1 _ (.head _)) rd_non) (om (z2 _ (.head _)) rd_non) (by decide) (by decide) (lay_sh rfl) q
 | yes l=>cases h2 with|yes l'=>exact jL (om (z1 _ (.head _)) (rd_lg (z1 _ (.tail _ (.head _))))) (om (z2 _ (.head _)) (rd_lg (z2 _ (.tail _ (.head _))))) (by decide) (by decide) (lay_sh (by decide +kernel)) q
theorem k7:∀{l:List UInt8},dZ l l=true:=λ{l}=>(dK l l).trans (beq_self_eq_true l)
theorem o_eqB{bs:List UInt8}(m1:(m,O.barr bs)∈L)(m2:(n,O.barr bs)∈L)(q:P true fr L):HC .eq (.ref m) (.ref n) fr L P E:=to2 q λw u v ra rb=>bf w.now.rel m1 ra λa oa ea e eo=>bf w.now.rel m2 rb λb ob eb e' eo'=>by
 refine nn λno=>?_;cases eo;cases eo';refine no ?_;exact .val (qF Value.bool k7) λk=>l_barr (by have:=w.room.2;omega) e e' k
theorem o_neD(m1:(m,O.dict [])∈L)(m2:(n,O.dict [])∈L)(q:P false fr L):HC .ne (.ref m) (.ref n) fr L P E:=to2 q λw u v ra rb=>eJ w.now.rel m1 ra λa oa ka ea e _ D er=>eJ w.now.rel m2 rb λb ob kb eb e' _ D' er'=>by
 refine nn λno=>?_;cases er;cases er';refine no ?_;exact .val rfl λk=>lw<|ne_empty (w.now.rel.notSys ea) (w.now.rel.notSys eb) (by have:=w.room.2;omega) D D' k
theorem lp_l{σ:Type}{hp:σ->Hp}{turn:V->σ->(σ->Prop)->Prop}{done:σ->Prop}{I:Nat->σ->Prop}{us:List V}(hm:∀k s,I k s->nU (hp s) (.ref n) us)(h:∀(k:Nat) a s,us[k]?=some a->I k s->turn a s (I (k+1)))(q:∀s,I us.length s->done s):∀(j k:Nat) (s:σ),k+j=us.length->I k s->Lp hp turn done (.lst n k) s
 | 0,k,s,e,i=>.nil (hm k s i) (List.getElem?_eq_none (qU e.symm)) (q s (e▸i))
 | j+1,k,s,e,i=>have z:=List.getElem?_eq_getElem (e▸Nat.lt_add_of_pos_right (Nat.succ_pos j));.cons (hm k s i) z (h k _ s z i) λs' i'=>lp_l hm h q j (k+1) s' ((Nat.add_right_comm k 1 j).trans e) i'
end
end
section
section
variable {fr:Fr} {L:Hp} {d:Nat} {hd:Bool} {E:Hd->Kn} {W:Fl->Kn} {F:Hp} {ns:List Nat} {c:Nat} {k:Wst c} {v2 v4:Option V} {o33:O} {fn:Hp->Hp}
noncomputable def fY:Nat->X->X
 | 0,x=>x
 | n+1,x=>fY n (tl x)
noncomputable abbrev LT(n d:Nat):Ab Fl:=(wp d (fY n Zx.x734) false).stms
noncomputable def Ls0:Hp:=(.l 44,.hole)::(.l 45,.hole)::il 1 (.cell none) (LB none none .hole aV [])
noncomputable def lf(r:List (Nat×V)):Fr:=⟨(197,.top jc)::r,CS⟩
structure NmI (j:Nat) (l:List V):Prop where
 ex:∃ns:List Nat,l=(ns.map λ(x:Nat)=>V.int (x:Int))/\ns.length=j
structure IsI (j:Nat) (l:List V):Prop where
 ex:∃is:List Int,l=is.map V.int/\is.length=j
theorem IsI.snoc{j:Nat}{l:List V}(h:IsI j l)(i:Int):IsI (j+1) (l++[.int i]):=h.ex.elim λis e=>⟨is++[i],by rw[e.1,List.map_append];rfl,by rw[List.length_append,e.2];rfl⟩
theorem NmI.snoc{j:Nat}{l:List V}(h:NmI j l){i:Int}(hi:0<=i):NmI (j+1) (l++[.int i]):=h.ex.elim λis e=>⟨is++[i.toNat],by rw[e.1,List.map_append];exact qF (λi=>_++[V.int i]) (Int.toNat_of_nonneg hi).symm,by rw[List.length_append,e.2];rfl⟩
theorem NmI.len{j:Nat}{l:List V}(h:NmI j l)(hj:j<=1000):l.length<=1000000:=h.ex.elim λis e=>by rw[e.1,qG,e.2];exact qC hj (by decide)
theorem IsI.len{j:Nat}{l:List V}(h:IsI j l)(hj:j<=1000):l.length<=1000000:=h.ex.elim λis e=>by rw[e.1,qG,e.2];exact qC hj (by decide)
theorem cut60{l:List V}:(bG none (some 60) l).length<=60:=by
 show((l.take (clipAt l.length 60)).drop 0).length<=60;rw[List.length_drop,List.length_take];exact qC (Nat.sub_le _ _) (qC (Nat.min_le_left _ _) (by unfold clipAt;lia))
theorem law1(h63:sInts.length<=63)(q:∀ns (k:Wst 0) F,ns.length<=60->LT 1 d (lf []) (well ns k (LB none none .hole aV F)) W E):LT 0 d (lf []) Ls0 W E:=by
 exists h63 q,zN d,aK E,aK W;refine z_top (qC h63 (by decide)) .non (.int 60) (.sym Ls0 [] rfl λt=>?_);refine lp_l (us:=bG none (some 60) (sInts.map V.int)) (I:=λj (s:Sc)=>NmI j s.1/\s.2=Ls0++[(.s t,.list (bG none (some 60) (sInts.map V.int)))]) (λj s i=>i.2▸qO Ls0 (.head _)) (λj a s ha i=>?_) (λs i=>?_) _ 0 _ (Nat.zero_add _) ⟨⟨[],rfl,rfl⟩,rfl⟩
 .obtain⟨l,L⟩:=s;obtain⟨i1,i2⟩:=i;subst i2;have hj:j<=1000:=qC (Nat.le_of_lt (List.getElem?_eq_some_iff.mp ha).1) (qC cut60 (by decide));refine⟨i1.len hj,?_⟩;have ha':=List.mem_of_mem_take (List.mem_of_mem_drop (List.mem_of_getElem? ha));obtain⟨x,_,rfl⟩:=List.mem_map.mp ha';exact⟨i1.snoc (Int.emod_nonneg x (by decide)),rfl⟩
 .obtain⟨l,L⟩:=s;obtain⟨⟨ns,e1,e2⟩,i2⟩:=i;subst i2 e1;refine .fix 45 (aa rfl) ?_;refine .fix 44 (aa rfl) ?_;exact q ns ⟨0,90001,qW 0⟩ _ (e2▸cut60)
theorem law2(hn:ns.length<=60){k:Wst 0}(q:∀(k:Wst 4) alive code (low kinds:Nat),(low=0\/low=1600)->LT 3 (d+1) (lf [(193,.bool code),(199,.int kinds),(12,.int low)]) (well ns k (LB (some (.bool alive)) none .hole aV F)) W E):
  LT 1 (d+1) (lf []) (well ns k (LB none none .hole aV F)) W E:=by
 exists hn k q,zN d,aK E,aK W,zL F,zL ns;refine draw (k:=k) (F:=LB none none .hole aV F) (size:=12) hn (by decide) (by decide) λk1 r1 _=>?_;refine draw (k:=k1) (F:=LB none none .hole aV F) (size:=12) hn (by decide) (by decide) λk2 r2 _=>?_;refine draw (k:=k2) (F:=LB (some (.bool (!ai r1 11))) none .hole aV F) (size:=2) hn (by decide) (by decide) λk3 r3 h3=>?_;obtain⟨low,hl,hlow⟩:∃low:Nat,[V.int 0,.int 1600][r3]?=some (.int low)/\(low=0\/low=1600):=match r3,h3 with
  | 0,_=>⟨0,rfl,.inl rfl⟩
  | 1,_=>⟨1600,rfl,.inr rfl⟩
 refine nW hl (r9 rfl) ?_;refine draw (k:=k3) (F:=LB (some (.bool (!ai r1 11))) none .hole aV F) (size:=6) hn (by decide) (by decide) λk4 r4 _=>?_;exact q k4 _ _ low r4 hlow
end
end
section
section
variable {fr:Fr} {L:Hp} {d:Nat} {hd:Bool} {E:Hd->Kn} {W:Fl->Kn} {F:Hp} {ns:List Nat} {c:Nat} {k:Wst c} {v2 v4:Option V} {o33:O} {fn:Hp->Hp} {r:List (Nat×V)} {code:Bool} {low kinds:Nat} {n nu:Hd} {is:List Int} {rs:List Row} {pr:Nat} {po:O}
noncomputable def l3(code:Bool)(low kinds:Nat)(r:List (Nat×V)):List (Nat×V):=(193,.bool code)::(199,.int kinds)::(12,.int low)::r
noncomputable def l4(code:Bool)(low kinds:Nat)(nu n:Hd)(r:List (Nat×V)):List (Nat×V):=l3 code low kinds ((35,.ref nu)::(187,.ref n)::r)
noncomputable def l6(code:Bool)(low kinds:Nat)(nu n:Hd)(t:List UInt8)(many:Nat)(r:List (Nat×V)):List (Nat×V):=l4 code low kinds nu n ((41,.bytes t)::(30,.ref (.l 40))::(192,.int many)::r)
noncomputable abbrev hB(ns:List Nat)(k:Wst c)(v2:Option V)(pr:Nat)(po:O)(fn:Hp->Hp)(F:Hp):Hp:=well ns k ((.s pr,po)::LB v2 none .hole fn F)
theorem law3(hn:ns.length<=60){k:Wst 4}(q:∀(k:Wst 200) (n pr:Nat) (is:List Int) (rs:List Row),is.length=8->Rows rs->1<=rs.length->rs.length<=20->LT 5 (d+4) (lf (l4 code low kinds (.s n) (.s pr) [])) (hB ns k v2 pr (b7 rs) aV ((.s n,.list (is.map V.int))::F)) W E):
  LT 3 (d+4) (lf (l3 code low kinds [])) (well ns k (LB v2 none .hole aV F)) W E:=by
 exists hn k q,zN d,aK E,aK W,zL F,zL ns,zO v2,zB code,zN low,zN kinds;refine eV ?_;refine⟨rfl,?_⟩;refine lp_c (n:=8) (I:=λj (s:Sc)=>IsI j s.1/\∃k:Wst (4+j),s.2=well ns k (LB v2 none .hole aV F)) (λj s hj i=>?_) (λs i=>?_) 8 0 _ rfl ⟨⟨[],rfl,rfl⟩,k,rfl⟩
 .obtain⟨l,L⟩:=s;obtain⟨i1,k,i2⟩:=i;subst i2;refine⟨i1.len (qC (Nat.le_of_lt hj) (by decide)),?_⟩;refine draw (k:=k) (F:=LB v2 none .hole aV F) (size:=2147483647) hn (qC (qN (Nat.le_of_lt hj) 4) (by decide)) (by decide) λk' r _=>?_;exact⟨i1.snoc _,k',rfl⟩
 .obtain⟨l,L⟩:=s;obtain⟨⟨is,e1,e2⟩,k,i2⟩:=i;subst i2 e1;refine .sym (well ns k (LB v2 none .hole aV [])) F rfl λn=>?_;refine rows_ (k:=k) (F:=LB v2 none .hole aV ((.s n,.list (is.map V.int))::F)) hn (by decide) λk' pr rs h1 h2 h3=>?_;exact q (k'.up (by decide)) n pr is rs e2 h1 h2 h3
noncomputable def eU(rs:List Row):List Row:=.addi 0 0 0::rs
noncomputable def pH(rs:List Row):List (List UInt8):=rs.map λr=>f5 4 r.word
noncomputable def bK(rs:List Row):List UInt8:=(pH (eU rs)).flatten
theorem fN:∀l:List Row,(pH l).flatten.length=4*l.length
 | []=>rfl
 | r::l=>(List.length_append (as:=f5 4 r.word) (bs:=(pH l).flatten)).trans (by rw[fA,fN l];exact Nat.add_comm 4 _)
theorem law5{k:Wst 200}(hr:Rows rs)(h1:1<=rs.length)(h2:rs.length<=20)(q:∀F',(∀p∈F,p∈F')->LT 6 (d+4) (lf (l4 code low kinds nu (.s pr) [(41,.bytes (bK rs))])) (hB ns k v2 pr (b7 rs) aV F') W E):
  LT 5 (d+4) (lf (l4 code low kinds nu (.s pr) [])) (hB ns k v2 pr (b7 rs) aV F) W E:=by
 exists k hr h1 h2 q,zN d,aK E,aK W,zL F,zL ns,zO v2,zB code,zN low,zN kinds,zh nu,zL rs,zN pr;have ok:Rows (eU rs):=λx m=>by
  cases m with
  | head=>exact⟨⟨by decide,by decide,c12 rfl⟩,.fre ⟨by decide,by decide⟩⟩
  | tail _ m=>exact hr x m
 have l21:(eU rs).length<=21:=r7 h2;refine mc_join ?_;refine .sym (hB ns k v2 pr (b7 rs) aV []) F rfl λa=>?_;refine ju (x:=[(Row.addi 0 0 0).v]) (z:=rs.map Row.v) (qO (hB ns k v2 pr (b7 rs) aV []) (.head _)) (.tail _ (.tail _ (.head _))) (by rw[qG];exact qC (qN h2 1) (by decide)) (.sym (hB ns k v2 pr (b7 rs) aV []) _ rfl λb=>?_);refine lp_l (us:=(eU rs).map Row.v) (I:=λj (s:Sc)=>s.1=((pH (eU rs)).take j).map V.bytes/\s.2=hB ns k v2 pr (b7 rs) aV ((.s b,.list ((eU rs).map Row.v))::(.s a,.list [(Row.addi 0 0 0).v])::F)) (λj s i=>i.2▸qO (hB ns k v2 pr (b7 rs) aV []) (.head _)) (λj a' s ha i=>?_) (λs i=>?_) _ 0 _ (Nat.zero_add _) ⟨rfl,rfl⟩
 .obtain⟨l,L⟩:=s;obtain⟨i1,i2⟩:=i;subst i1 i2;rw[List.getElem?_map] at ha;obtain⟨r,hr,rfl⟩:=Option.map_eq_some_iff.mp ha;have m:=List.mem_of_getElem? hr;refine⟨by rw[qG,List.length_take];exact qC (Nat.min_le_right _ _) (qC (by unfold pH;rw[qG];exact l21) (by decide)),?_⟩;refine word_ (ok r m).1 ?_;refine mJ ?_;refine k_toN rfl (nZ (ok r m).1) ?_;exact⟨by rw[List.take_add_one,List.map_append,show(pH (eU rs))[j]?=some (f5 4 r.word) from by unfold pH;rw[List.getElem?_map,hr];rfl];rfl,rfl⟩
 .obtain⟨l,L⟩:=s;obtain⟨i1,i2⟩:=i;subst i1 i2;rw[qG,show(eU rs).length=(pH (eU rs)).length from(qG _).symm,List.take_length];refine .sym (hB ns k v2 pr (b7 rs) aV []) _ rfl λe=>?_;refine k_join (bs:=pH (eU rs)) (qO (hB ns k v2 pr (b7 rs) aV []) (.head _)) (by rw[fN];exact qC (qS 4 l21) (by decide)) (by unfold pH;rw[qG];exact r7 h1) ?_;exact q _ λp h=>.tail _ (.tail _ (.tail _ h))
theorem law6(hn:ns.length<=60){k:Wst 200}{t:List UInt8}(q:∀(k:Wst 201) many kids F',many<=6->Kids F' kids many->(∀p∈F,p∈F')->LT 7 (d+4) (lf (l6 code low kinds nu (.s pr) t many [])) (hB ns k v2 pr (b7 rs) (func code (4*(rs.length:Int)) kids) F') W E)(h2:rs.length<=20):
  LT 6 (d+4) (lf (l4 code low kinds nu (.s pr) [(41,.bytes t)])) (hB ns k v2 pr (b7 rs) aV F) W E:=by
 refine gh (as:=rs.map Row.v) (.tail _ (.tail _ (.head _))) (by rw[qG];exact qC h2 (by decide)) ?_;rw[qG];refine bW (cw (qC h2 (by decide))) ?_;refine qb (k:=k) hn (by decide) λk' many kids F' hm K hF=>?_;exact q k' many kids F' hm K hF
end
end
section
section
variable {fr:Fr} {L:Hp} {d:Nat} {hd:Bool} {E:Hd->Kn} {W:Fl->Kn} {Q:V->Fr->Hp->Prop} {F:Hp} {ns:List Nat} {c:Nat} {k:Wst c} {v2 v4:Option V} {o33:O} {fn:Hp->Hp} {r:List (Nat×V)} {code:Bool} {low kinds many pr:Nat} {n nu:Hd} {is:List Int} {rs:List Row} {po:O} {t:List UInt8} {kids:List V} {size:Int}
theorem kget(x:Int):∃δ:Int,(b9 ai x [(4,V.int (-1)),(5,.int 1)]).getD (.int 0)=.int δ:=by
 show ∃δ,Option.getD (match ai 4 x with|true=>some (V.int (-1))|false=>match ai 5 x with|true=>some (.int 1)|false=>none) (V.int 0)=.int δ;generalize ai 4 x=a;generalize ai 5 x=b;cases a with
 | true=>exact⟨_,rfl⟩
 | false=>cases b<;>exact⟨_,rfl⟩
theorem k_getE{es:List (Int×V)}{i:Int}{u x:V}(m:(n,O.dict es)∈L)(e:(b9 ai i es).getD u=x)(q:Q x fr L):pE d hd (.bi 1 [.ref n]) [.int i,u] fr L Q E:=k_get m (e▸q)
theorem cut_map{q:Option Int}:∃js:List Int,bG none q (is.map V.int)=js.map V.int/\js.length<=is.length:=⟨_,(qF (List.drop 0) List.map_take.symm).trans List.map_drop.symm,by rw[List.length_drop,List.length_take];exact qC (Nat.sub_le _ _) (Nat.min_le_right _ _)⟩
noncomputable def stL:Option Nat->List V
 | none=>[]
 | some t=>[.int ((1024+t:Nat):Int)]
theorem law7(m:(nu,.list (is.map V.int))∈F)(h8:is.length=8)(q:∀F' (n:Nat) (js:List Int),(∀p∈F,p∈F')->js.length<=8->(.s n,.list (js.map V.int))∈F'->LT 8 (d+4) (lf (l6 code low kinds (.s n) (.s pr) t many [])) (hB ns k v2 pr po (func code size kids) F') W E):
  LT 7 (d+4) (lf (l6 code low kinds nu (.s pr) t many [])) (hB ns k v2 pr po (func code size kids) F) W E:=by
 exists k m h8 q,zN d,aK E,aK W,zL F,zL ns,zN c,zO v2,zB code,zN low,zN kinds,zN many,zN pr,zh nu,zL is,zo po,zL t,zL kids,zI size;refine nn λno=>?_;obtain⟨δ,e⟩:=kget kinds;refine no ?_;refine .sym (hB ns k v2 pr po (func code size kids) []) F rfl λa=>?_;refine mc_get (qO (hB ns k v2 pr po (func code size kids) []) (.head _)) ?_;refine k_getE (qO (hB ns k v2 pr po (func code size kids) []) (.head _)) e ?_;refine f_max2 ?_;refine z_list (l:=is.map V.int) (qO (hB ns k v2 pr po (func code size kids) []) (.tail _ m)) (by rw[qG,h8];decide) .non (.int _) (.sym (hB ns k v2 pr po (func code size kids) []) _ rfl λb=>?_);refine nn λno=>?_;obtain⟨js,e1,e2⟩:=cut_map (is:=is) (q:=some (max 0 ((many:Int)+δ)));refine no ?_;refine(e1).symm▸?_;exact q _ b js (λp h=>.tail _ (.tail _ h)) (h8▸e2) (.head _)
noncomputable def iP:X->X
 | .cons x _=>x
 | x=>x
theorem sp9{r:Nat}(h:r<9):j2 (some (4+4*r)):=λt e=>by
 cases e;exact⟨qI 4 _,qN (qS 4 (Nat.le_of_lt_succ h)) 4,(Nat.add_mul_mod_self_left 4 4 r)⟩
theorem law8(hn:ns.length<=60){k:Wst 201}(q:∀(k:Wst 203) o,j2 o->LT 9 (d+4) (lf r) (well ns k ((.s pr,po)::LB v2 (some (.ref (.l 33))) (.list (stL o)) fn F)) W E)(hfn:fn=func code size kids):
  LT 8 (d+4) (lf r) (hB ns k v2 pr po fn F) W E:=by
 subst hfn;revert q;refine(show ∀n:Ab Fl,(∀(k:Wst 203) o,j2 o->n (lf r) (well ns k ((.s pr,po)::LB v2 (some (.ref (.l 33))) (.list (stL o)) (func code size kids) F)) W E)->i5 (wp (d+4) (iP (fY 8 Zx.x734)) false).stm n (lf r) (hB ns k v2 pr po (func code size kids) F) W E from λn q=>?_) (LT 9 (d+4));refine draw (k:=k) (F:=(.s pr,po)::LB v2 none .hole (func code size kids) F) (size:=3) hn (by decide) (by decide) λk1 r1 _=>?_;by_cases h:r1=0
 .refine aJ (bj (qF Int.ofNat h)) ?_;refine draw (k:=k1) (F:=(.s pr,po)::LB v2 none .hole (func code size kids) F) (size:=9) hn (by decide) (by decide) λk2 r2 h2=>?_;refine bW (cw (qC (Nat.le_of_lt h2) (by decide))) ?_;have q:=q k2 _ (sp9 h2);rw[show stL (some (4+4*r2))=[.int (1028+4*(r2:Int))] from qF (λn:Nat=>[V.int (n:Int)]) (Nat.add_assoc 1024 4 (4*r2)).symm] at q;refine .fix 33 (aa rfl) ?_;exact q
 .refine aB (bB λz=>h (Int.ofNat.inj z)) ?_;refine .fix 33 (aa rfl) ?_;exact q (k1.up (Nat.le_succ _)) none nofun
end
end
section
section
variable {fr:Fr} {L:Hp} {d:Nat} {hd:Bool} {E:Hd->Fr->Hp->Prop} {Q:V->Fr->Hp->Prop} {W:Fl->Kn} {EE:Hd->Kn} {F A:Hp} {ns:List Nat} {c:Nat} {k:Wst c} {v2 v4:Option V} {o33:O} {r:List (Nat×V)} {code:Bool} {low kinds many pr:Nat} {n nu:Hd} {rs:List Row} {po:O} {t:List UInt8} {kids:List V} {size:Int} {lo:Int}
theorem kB{x:X}{p p1 p2 p3 i a m C dk:Nat}{fr:Fr}{v:V}{fs:List (Nat×V)}{L':Hp}(h8:look 8 fr.loc=some (.ref (.l m)))(hv:look i fr.loc=some v)(hi:dE (.ref (.l m)) L=some ((C,dk),fs))(hA:(fK C a&&Nat.ble fs.length 100)=true)(e:il dk (.ns (put a v fs)) L=L')
  (q:(wp d x hd).stms fr L' W EE):(wp d (Zx.K (Zx.A (Zx.a (Zx.l 8 p) a p1) (Zx.l i p2) p3) x) hd).stms fr L W EE:=by
 subst e;refine(?_:aD (look i fr.loc) Ab.no Ab.ret fr L _ EE);refine(hv).symm▸?_;refine(?_:aD (look 8 fr.loc) Ab.no Ab.ret fr L _ EE);refine(h8).symm▸?_;refine(?_:aD (dE (.ref (.l m)) L) _ _ fr L _ EE);refine(hi).symm▸?_;refine(?_:bg (fK C a&&Nat.ble fs.length 100) _ _ fr L _ EE);refine(hA).symm▸?_;exact q
theorem callW_e{a:Nat}{us:List V}{f:Fn}{l:List (Nat×V)}(h:look a T.fns=some f)(h2:gE f.params us=some l)(q:(wp d f.body hd).stms ⟨l,[]⟩ L (Rt Q fr) λn _ L=>E n fr L):jp d hd a us fr L Q E:=by
 unfold jp;refine(h).symm▸?_;dsimp only;refine(h2).symm▸?_;exact q
noncomputable def pg_(fs:List (Nat×V))(F:Hp):Hp:=(.l 21,.inst 247 (.l 29))::(.l 29,.ns fs)::F
theorem program_(q:Q (.ref (.l 21)) fr (pg_ [(40,.int 1024),(13,.int 1024),(41,.bytes t),(45,.ref (.l 30)),(81,.int 3072),(82,.ref (.l 31)),(83,.ref (.l 32)),(42,.int lo)] F)):
  HK (d+2) hd (.top 247) [.int 1024,.int 1024,.bytes t,.ref (.l 30),.int 3072,.ref (.l 31),.ref (.l 32),.int lo] fr ((.l 21,.hole)::(.l 29,.hole)::F) Q E:=by
 refine fE rfl rfl (.fix 29 (aa rfl) (.fix 21 (L':=pg_ [] F) (aa rfl) ?_));refine dg (callW_e rfl rfl ?_);refine kB (L':=pg_ [(40,.int 1024)] F) rfl rfl rfl rfl rfl ?_;refine kB (L':=pg_ [(40,.int 1024),(13,.int 1024)] F) rfl rfl rfl rfl rfl ?_;refine kB (L':=pg_ [(40,.int 1024),(13,.int 1024),(41,.bytes t)] F) rfl rfl rfl rfl rfl ?_;refine kB (L':=pg_ [(40,.int 1024),(13,.int 1024),(41,.bytes t),(45,.ref (.l 30))] F) rfl rfl rfl rfl rfl ?_;refine kB (L':=pg_ [(40,.int 1024),(13,.int 1024),(41,.bytes t),(45,.ref (.l 30)),(81,.int 3072)] F) rfl rfl rfl rfl rfl ?_;refine kB (L':=pg_ [(40,.int 1024),(13,.int 1024),(41,.bytes t),(45,.ref (.l 30)),(81,.int 3072),(82,.ref (.l 31))] F) rfl rfl rfl rfl rfl ?_;refine kB (L':=pg_ [(40,.int 1024),(13,.int 1024),(41,.bytes t),(45,.ref (.l 30)),(81,.int 3072),(82,.ref (.l 31)),(83,.ref (.l 32))] F) rfl rfl rfl rfl rfl ?_;refine kB (L':=pg_ [(40,.int 1024),(13,.int 1024),(41,.bytes t),(45,.ref (.l 30)),(81,.int 3072),(82,.ref (.l 31)),(83,.ref (.l 32)),(42,.int lo)] F) rfl rfl rfl rfl rfl ?_;exact⟨rfl,q⟩
theorem ev22(q:Q (.ref (.l 22)) fr ((.l 22,.inst 506 (.l 23))::(.l 23,.ns [(63,.str []),(18,.int 0),(9,.str [])])::F)):HK (d+2) hd (.top 506) [.str [],.int 0,.str []] fr ((.l 22,.hole)::(.l 23,.hole)::F) Q E:=by
 refine fE rfl rfl (.fix 23 (aa rfl) (.fix 22 (L':=(.l 22,.inst 506 (.l 23))::(.l 23,.ns [])::F) (aa rfl) ?_));refine dg ?_;exact⟨rfl,q⟩
theorem ev24(q:Q (.ref (.l 24)) fr ((.l 24,.inst 506 (.l 25))::(.l 25,.ns [(63,.str []),(18,.int 0),(9,.str [])])::F)):HK (d+2) hd (.top 506) [.str [],.int 0,.str []] fr ((.l 24,.hole)::(.l 25,.hole)::F) Q E:=by
 refine fE rfl rfl (.fix 25 (aa rfl) (.fix 24 (L':=(.l 24,.inst 506 (.l 25))::(.l 25,.ns [])::F) (aa rfl) ?_));refine dg ?_;exact⟨rfl,q⟩
end
end
section
section
variable {fr:Fr} {L:Hp} {d:Nat} {hd:Bool} {E:Hd->Fr->Hp->Prop} {Q:V->Fr->Hp->Prop} {W:Fl->Kn} {EE:Hd->Kn} {F A:Hp} {ns:List Nat} {c:Nat} {k:Wst c} {v2 v3 v4:Option V} {o33:O} {r:List (Nat×V)} {code:Bool} {low kinds many pr:Nat} {nu:Hd} {rs:List Row} {po:O} {t:List UInt8} {kids:List V} {size:Int} {lo:Int} {n:Ab Fl}
noncomputable def fe(v2 v3 v4:Option V)(o33:O)(F:Hp):Hp:=(.l 24,.hole)::(.l 25,.hole)::(.l 26,.hole)::(.l 27,.hole)::(.l 28,.hole)::(.l 2,.cell v2)::(.l 3,.cell v3)::(.l 4,.cell v4)::(.l 33,o33)::F
noncomputable def ly(F:Hp):Hp:=(.l 22,.hole)::(.l 23,.hole)::F
noncomputable def ev0(F:Hp):Hp:=(.l 22,.inst 506 (.l 23))::(.l 23,.ns [(63,.str []),(18,.int 0),(9,.str [])])::F
noncomputable def b_(x:O)(j:Nat)(F:Hp):Hp:=(.l 31,.dict [])::(.l 32,.dict [])::(.l 51,x)::(.l 0,.tab j)::(.l 1,.cell (some (.ref (.l 44))))::F
noncomputable def eX(code:Bool)(size:Int)(kids:List V)(x:O)(j:Nat)(F:Hp):Hp:=bd (func code size kids (cO (b_ x j F)))
noncomputable abbrev w1(ns:List Nat)(k:Wst c)(pr:Nat)(po:O):Hp:=well ns k [(.s pr,po)]
theorem law9(q:n (lf (l6 code low kinds nu (.s pr) t many [(39,.ref (.l 21))])) (w1 ns k pr po++cA (eM (ly (fe v2 none v4 o33 (bR t low (eX code size kids .hole 0 F)))))) W EE):
  i5 (wp (d+3) (iP (fY 9 Zx.x734)) false).stm n (lf (l6 code low kinds nu (.s pr) t many [])) (well ns k ((.s pr,po)::LB v2 v4 o33 (func code size kids) F)) W EE:=by
 exists k q,zN d,aK W,aK EE,zL F,zL ns,zN c,zO v2,zO v4,zo o33,zB code,zN low,zN kinds,zN many,zN pr,zh nu,zo po,zL t,zL kids,zI size,zp4 n;refine eV ?_;refine f_byR (x:=0) (bs:=[1,2,3,4,5,6,7,8,9,10,11,12,13,14,15]) rfl (by decide) ?_;refine .fix 30 (aa rfl) ?_;refine .fix 31 (aa rfl) ?_;refine .fix 32 (aa rfl) ?_;have p:∀G:Hp,List.Perm (G++(w1 ns k pr po++cA (eM (ly (fe v2 none v4 o33 ((.l 30,.list [.tup [.int 1536,.bytes p_]])::eX code size kids .hole 0 F))))) ) (w1 ns k pr po++cA (eM (ly (fe v2 none v4 o33 (G++((.l 30,.list [.tup [.int 1536,.bytes p_]])::eX code size kids .hole 0 F)))))):=λG=>qP G (w1 ns k pr po++cA (eM (ly (fe v2 none v4 o33 [])))) _;refine .turn (p [(.l 21,.hole),(.l 29,.hole)]) ?_;refine program_ ⟨_,(p (pg_ [(40,.int 1024),(13,.int 1024),(41,.bytes t),(45,.ref (.l 30)),(81,.int 3072),(82,.ref (.l 31)),(83,.ref (.l 32)),(42,.int low)] [])).symm,?_⟩;exact q
theorem pm4{A B C D X:Hp}:List.Perm (A++(B++(C++(D++X)))) (B++(D++(A++(C++X)))):=(qP A B _).trans ((((qP C D X).append_left A).trans (qP A D (C++X))).append_left B)
noncomputable def mt0(t:List UInt8)(F:Hp):Hp:=am (mI (rg0.set 2 4096) (gg t)) .non .hole (au [] 14 [] .hole F)
theorem law10(ht:t.length<=500)(q:n (lf (l6 code low kinds nu (.s pr) t many ((39,.ref (.l 21))::[(48,.ref (.l 12))]))) (w1 ns k pr po++mt0 t (ev0 (fe v2 (some (.ref (.l 22))) v4 o33 (bR t low (eX code size kids .hole 0 F))))) W EE):
  i5 (wp (d+5) (iP (fY 10 Zx.x734)) false).stm n (lf (l6 code low kinds nu (.s pr) t many [(39,.ref (.l 21))])) (w1 ns k pr po++cA (eM (ly (fe v2 none v4 o33 (bR t low (eX code size kids .hole 0 F)))))) W EE:=by
 have p:∀{B:Hp},List.Perm (w1 ns k pr po++(B++(ly (fe v2 none v4 o33 [])++(bR t low []++eX code size kids .hole 0 F)))) (B++(bR t low []++(w1 ns k pr po++(ly (fe v2 none v4 o33 [])++eX code size kids .hole 0 F)))):=pm4;refine .turn (p (B:=cA (eM []))).symm ?_;refine target_ ht ⟨_,p (B:=mt0 t []),?_⟩;refine .turn (qP (ly []) (w1 ns k pr po++mt0 t []) (fe v2 none v4 o33 (bR t low (eX code size kids .hole 0 F)))) ?_;refine ev22 ⟨_,qP (w1 ns k pr po++mt0 t []) (ev0 []) (fe v2 none v4 o33 (bR t low (eX code size kids .hole 0 F))),?_⟩;exact q
end
end
section
section
variable {fr:Fr} {L:Hp} {d:Nat} {hd:Bool} {E:Hd->Fr->Hp->Prop} {Q:V->Fr->Hp->Prop} {W:Fl->Kn} {EE:Hd->Kn} {F A:Hp} {ns:List Nat} {c:Nat} {k:Wst c} {v2 v3 v4:Option V} {o33 x:O} {r:List (Nat×V)} {code alive:Bool} {low kinds many pr:Nat} {nu:Hd} {rs:List Row} {po:O} {t:List UInt8} {kids:List V} {size:Int} {lo:Int} {n:Ab Fl} {s:Ms} {lg:V} {o:Option Nat} {vs:List V}
noncomputable def de(code:Bool)(low kinds:Nat)(nu n:Hd)(t:List UInt8)(many:Nat)(r:List (Nat×V)):List (Nat×V):=l6 code low kinds nu n t many ((39,.ref (.l 21))::(48,.ref (.l 12))::(17,.ref (.l 5))::r)
theorem law11(q:n (lf (de code low kinds nu (.s pr) t many [])) (w1 ns k pr po++mt0 t (ev0 F)) W EE):
  i5 (wp d (iP (fY 11 Zx.x734)) false).stm n (lf (l6 code low kinds nu (.s pr) t many ((39,.ref (.l 21))::[(48,.ref (.l 12))]))) (w1 ns k pr po++mt0 t (ev0 F)) W EE:=q
noncomputable def hL(s:Ms)(lg:V)(E:Hp->Hp)(v2 v3 v4:Option V)(o33:O)(t:List UInt8)(low:Int)(code:Bool)(size:Int)(kids:List V)(x:O)(F:Hp):Hp:=am s lg .hole (au [] 14 [] .hole (E (fe v2 v3 v4 o33 (bR t low (eX code size kids x 0 F)))))
theorem rg0_ok:RG rg0:=⟨rfl,by decide⟩
theorem law12(hn:ns.length<=60)(ht:t.length<=500){k:Wst 203}(q:∀rg bs pc st lg x,SpO rg->bs.length=1024->LgO lg x->n (lf (de code low kinds nu (.s pr) t many [])) (hL (msL rg (ay (gg t) 2048 bs) pc st) lg ev0 v2 v3 v4 o33 t low code size kids x ((.s pr,po)::F)) W EE):
  i5 (wp (d+4) (iP (fY 12 Zx.x734)) false).stm n (lf (de code low kinds nu (.s pr) t many [])) (w1 ns k pr po++mt0 t (ev0 (fe v2 v3 v4 o33 (bR t low (eX code size kids .hole 0 F))))) W EE:=by
 refine .dp (laid_ (G:=λx=>au [] 14 [] .hole (ev0 (fe v2 v3 v4 o33 (bR t low (eX code size kids x 0 F))))) hn (by decide) (λ{x}=>⟨au [] 14 [] .hole (ev0 (fe v2 v3 v4 o33 (bR t low (bd (func code size kids (cO [(.l 31,.dict []),(.l 32,.dict [])])))))),_,rfl,rfl⟩) (rg0_ok.setN (v:=4096) (by decide)) (by decide) (fz ht) λrg bs pc st lg x h1 h2 h3=>?_);exact⟨_,List.perm_middle (l₁:=hL (msL rg (ay (gg t) 2048 bs) pc st) lg ev0 v2 v3 v4 o33 t low code size kids x []),q rg bs pc st lg x h1 h2 h3⟩
noncomputable def ev1(fs:List (Nat×V))(F:Hp):Hp:=(.l 22,.inst 506 (.l 23))::(.l 23,.ns ((63,.str [])::(18,.int 0)::(9,.str [])::fs))::F
noncomputable def sesB(fs:List (Nat×V))(f0 f1 f2:O)(v2:Option V)(vs:List V)(F:Hp):Hp:=(.l 24,.inst 506 (.l 25))::(.l 25,.ns ((63,.str [])::(18,.int 0)::(9,.str [])::fs))::(.l 26,f0)::(.l 27,f1)::(.l 28,f2)::(.l 2,.cell v2)::(.l 3,.cell (some (.ref (.l 22))))::(.l 4,.cell (some (.ref (.l 33))))::(.l 33,.list vs)::F
noncomputable def at4(low:Nat):List (Nat×V):=[(48,.ref (.l 12)),(39,.ref (.l 21)),(56,.ref (.l 24)),(68,.int (1+(low:Int) / 800))]
theorem law13(q:n (lf (de code low kinds nu (.s pr) t many [])) (am s lg .hole (au [] 14 [] .hole (ev1 (at4 low) (sesB [] .hole .hole .hole v2 vs (bR t low (eX code size kids x 0 F)))))) W EE):
  i5 (wp (d+4) (iP (fY 13 Zx.x734)) false).stm n (lf (de code low kinds nu (.s pr) t many [])) (hL s lg ev0 v2 (some (.ref (.l 22))) (some (.ref (.l 33))) (.list vs) t low code size kids x F) W EE:=by
 refine .turn (qP [(.l 24,.hole),(.l 25,.hole)] (am s lg .hole (au [] 14 [] .hole (ev0 []))) _) ?_;refine ev24 ⟨_,qP (am s lg .hole (au [] 14 [] .hole (ev0 []))) [_,_] _,?_⟩;exact q
end
end
section
section
variable {fr:Fr} {L:Hp} {d:Nat} {hd:Bool} {E:Hd->Fr->Hp->Prop} {Q:V->Fr->Hp->Prop} {W:Fl->Kn} {EE:Hd->Kn} {F A:Hp} {v2:Option V} {x:O} {r:List (Nat×V)} {code alive:Bool} {low kinds many pr:Nat} {nu:Hd} {t:List UInt8} {kids:List V} {size:Int} {n:Ab Fl} {s:Ms} {lg:V} {o:Option Nat} {vs:List V} {lw:Lw} {js:List Int} {k0:Nat}
noncomputable def hM(s:Ms)(lg:V)(f1 f2:List (Nat×V))(a b c:O)(v2:Option V)(vs:List V)(t:List UInt8)(low:Nat)(code:Bool)(size:Int)(kids:List V)(x:O)(j:Nat)(F:Hp):Hp:=am s lg .hole (au [] 14 [] .hole (ev1 f1 (sesB f2 a b c v2 vs (bR t low (eX code size kids x j F)))))
theorem law14(q:n (lf (de code low kinds nu (.s pr) t many [])) (hM s lg (at4 low) [(57,.ref (.l 26))] (.fn 0 CS) .hole .hole v2 vs t low code size kids x 1 F) W EE):
  i5 (wp d (iP (fY 14 Zx.x734)) false).stm n (lf (de code low kinds nu (.s pr) t many [])) (hM s lg (at4 low) [] .hole .hole .hole v2 vs t low code size kids x 0 F) W EE:=by
 refine⟨_,aa rfl,.fix 26 (aa rfl) ?_⟩;exact q
noncomputable def l15(r:List (Nat×V)):List (Nat×V):=(206,.ref (.l 27))::(207,.ref (.l 28))::r
theorem law15(q:n (lf (de code low kinds nu (.s pr) t many [(206,.ref (.l 27))])) (hM s lg (at4 low) [(57,.ref (.l 26))] (.fn 0 CS) (.fn 1 CS) .hole v2 vs t low code size kids x 2 F) W EE):
  i5 (wp d (iP (fY 15 Zx.x734)) false).stm n (lf (de code low kinds nu (.s pr) t many [])) (hM s lg (at4 low) [(57,.ref (.l 26))] (.fn 0 CS) .hole .hole v2 vs t low code size kids x 1 F) W EE:=by
 refine⟨_,aa rfl,.fix 27 (aa rfl) ?_⟩;exact q
theorem law16(q:n (lf (de code low kinds nu (.s pr) t many (l15 []))) (hM s lg (at4 low) [(57,.ref (.l 26))] (.fn 0 CS) (.fn 1 CS) (.fn 2 CS) v2 vs t low code size kids x 3 F) W EE):
  i5 (wp d (iP (fY 16 Zx.x734)) false).stm n (lf (de code low kinds nu (.s pr) t many [(206,.ref (.l 27))])) (hM s lg (at4 low) [(57,.ref (.l 26))] (.fn 0 CS) (.fn 1 CS) .hole v2 vs t low code size kids x 2 F) W EE:=by
 refine⟨_,aa rfl,.fix 28 (aa rfl) ?_⟩;exact q
noncomputable abbrev kR(alive:Bool)(o:Option Nat)(t:List UInt8)(low:Nat):Lw:=⟨alive,o,t,low,1+(low:Int) / 800⟩
noncomputable def hS(s:Ms)(lg:V)(lw:Lw)(code:Bool)(size:Int)(kids:List V)(F:Hp):Hp:=d4 s lg .hole [] 14 [] .hole lw bd code size kids F
theorem law17(q:n (lf (de code low kinds nu (.s pr) t many (l15 []))) (hS s lg (kR alive o t low) code size kids (cO (b_ x 3 F))) W EE):
  i5 (wp d (iP (fY 17 Zx.x734)) false).stm n (lf (de code low kinds nu (.s pr) t many (l15 []))) (hM s lg (at4 low) [(57,.ref (.l 26))] (.fn 0 CS) (.fn 1 CS) (.fn 2 CS) (some (.bool alive)) (stL o) t low code size kids x 3 F) W EE:=q
theorem law18(hr:s.rg.length=32)(hm:s.mem.length=3072)(hl:LgO lg x)(q:∀r lv P mb,ShO s.rg r lg lv P->n (lf (de code low kinds nu (.s pr) t many (l15 [(210,lg),(119,.ref (.s mb)),(209,shV s r lv)]))) (hS s lg lw code size kids (cO (b_ x 3 ((.s mb,.barr s.mem)::(P++F))))) W EE):
  i5 (wp (d+2) (iP (fY 18 Zx.x734)) false).stm n (lf (de code low kinds nu (.s pr) t many (l15 []))) (hS s lg lw code size kids (cO (b_ x 3 F))) W EE:=by
 refine .dp (shown_ hr hl (F:=au [] 14 [] .hole (a_ lw (eX code size kids x 3 F))) (ao (bw (.tail _ (.tail _ (.tail _ (bz (.tail _ (.tail _ (.tail _ (.tail _ (.tail _ (.tail _ (.tail _ (.head _)))))))))))))) λr lv P hP=>?_);refine⟨_,qP (hS s lg lw code size kids (cO (b_ x 3 []))) P F,?_⟩;refine f_baR (bs:=s.mem) (a9 rfl) (d1 hm) (.sym (hS s lg lw code size kids (cO (b_ x 3 []))) (P++F) rfl λmb=>?_);exact q r lv P mb hP
noncomputable def l19(mb:Nat)(lg b:V)(r:List (Nat×V)):List (Nat×V):=l15 ((210,lg)::(119,.ref (.s mb))::(209,b)::(185,.ref (.l 46))::r)
noncomputable abbrev rgW(rg:List Nat)(js:List Int)(k0:Nat):List Nat:=((sa 0 js rg).set 1 1024).set 2 k0
theorem law19{mb:Nat}{b:V}(m:(nu,.list (js.map V.int))∈F)(hn:js.length<=8)(hr:RG s.rg)(hm:s.mem.length=3072)(hk:(((ah s.rg 2:Nat):Int) - 64) / 16*16=(k0:Int))
  (q:n (lf (de code low kinds nu (.s pr) t many (l19 mb lg b []))) (hS s lg lw code size kids (room (rgW s.rg js k0) s.mem [] [] (b_ x 3 F))) W EE) :
  i5 (wp (d+2) (iP (fY 19 Zx.x734)) false).stm n (lf (de code low kinds nu (.s pr) t many (l15 [(210,lg),(119,.ref (.s mb)),(209,b)]))) (hS s lg lw code size kids (cO (b_ x 3 F))) W EE:=by
 refine room_ (F:=b_ x 3 F) (.tail _ (.tail _ (.tail _ (.tail _ (.tail _ m))))) hn hr hm hk ?_;exact q
end
end
section
section
variable {fr:Fr} {L:Hp} {d:Nat} {hd:Bool} {E:Hd->Fr->Hp->Prop} {Q:V->Fr->Hp->Prop} {W:Fl->Kn} {EE:Hd->Kn} {F A:Hp} {x:O} {r:List (Nat×V)} {code alive:Bool} {low kinds many pr mb:Nat} {nu:Hd} {t:List UInt8} {kids:List V} {size:Int} {n:Ab Fl} {s:Ms} {lg b:V} {o:Option Nat} {lw:Lw} {js:List Int} {k0:Nat} {rg:List Nat} {rs:List Row} {lt:Bool} {w:Wr} {mem:List UInt8} {i j k l:Int} {r1:V}
theorem tail_mem{p:Hd×O}{rg:List Nat}{mem:List UInt8}{sto:gm}{out:List UInt8}(h:p∈F):p∈hS s lg lw code size kids (room rg mem sto out (b_ x 3 F)):=dF (K:=bd) (.tail _ (.tail _ (.tail _ (bz (bh (.tail _ (.tail _ (.tail _ (.tail _ (.tail _ h))))))))))
noncomputable abbrev hR(s:Ms)(lg:V)(lw:Lw)(code:Bool)(size:Int)(kids:List V)(w:Wr)(x:O)(F:Hp):Hp:=hS s lg lw code size kids (room w.rg w.mem w.s w.out (b_ x 3 F))
theorem law20(m:(nu,.list (js.map V.int))∈F)(h8:js.length<=8)(q:n (lf (de code low kinds nu (.s pr) t many (l19 mb lg b [(212,.bool (j1 lw code js many))]))) (hR s lg lw code size kids w x F) W EE):
  i5 (wp (d+2) (iP (fY 20 Zx.x734)) false).stm n (lf (de code low kinds nu (.s pr) t many (l19 mb lg b []))) (hR s lg lw code size kids w x F) W EE:=by
 have key:∀c:Bool,c=j1 lw code js many->n (lf (de code low kinds nu (.s pr) t many (l19 mb lg b [(212,.bool c)]))) (hR s lg lw code size kids w x F) W EE:=λc e=>e▸q;rcases Bool.eq_false_or_eq_true lw.alive with h|h
 .refine aJ h ?_;rcases Bool.eq_false_or_eq_true code with h2|h2
  .refine aJ h2 ?_;refine gh (as:=js.map V.int) (tail_mem m) (by rw[qG];exact qC h8 (by decide)) ?_;exact key _ (by unfold j1;rw[h,h2,qG];exact ieq_nat)
  .refine aB h2 ?_;exact key _ (by unfold j1;rw[h,h2];rfl)
 .refine aB h ?_;exact key _ (by unfold j1;rw[h];rfl)
structure K0 (rg:List Nat) (k0:Nat):Prop where
 hk:(((ah rg 2:Nat):Int) - 64) / 16*16=(k0:Int)
 lo:3136<=k0
 hi:k0<=3800
 al:k0 % 4=0
theorem SpO.spk(h:SpO rg):∃k0,K0 rg k0:=h.sp.elim λr e=>⟨(3136+4*r) / 16*16,by rw[e.2];omega,by omega,by omega,by omega⟩
theorem iv0(h:SpO rg)(k:K0 rg k0):Iv k0 0 (rgW rg js k0):=by
 have h1:=sa_rg (ns:=js) (i:=0) h.hr;have h2:RG ((sa 0 js rg).set 1 1024):=h1.setN (by decide);have e:ah (rgW rg js k0) 2=k0:=dQ (h2.len▸(by decide));exact⟨h2.setN (r6 k.hi (by decide)),(cx (by decide)).trans ((cx (by decide)).trans ((mz (by decide)).trans h.z)),(cx (by decide)).trans (dQ (h1.len▸(by decide))),e.symm▸k.al,qU e.symm,qU e⟩
theorem bd0(k:K0 rg k0)(h:rs.length<=20):Bd k0 (0+rs.length):=⟨k.lo,k.hi,(Nat.zero_add _).symm▸h⟩
noncomputable def wnL(lt:Bool)(lw:Lw)(rs:List Row)(s:Ms)(js:List Int)(k0:Nat):Wr:=wn lt lw.stop rs (rgW s.rg js k0) s.mem []
theorem law21(mr:(.s pr,b7 rs)∈F)(hr:Rows rs)(h20:rs.length<=20)(h:SpO s.rg)(k:K0 s.rg k0)(hm:s.mem.length=3072)(q:n (lf (de code low kinds nu (.s pr) t many (l19 mb lg b [(212,.bool lt),(213,.bool (bkB (wnL lt lw rs s js k0) k0))]))) (hR s lg lw code size kids (wnL lt lw rs s js k0) x F) W EE):
  i5 (wp (d+3) (iP (fY 21 Zx.x734)) false).stm n (lf (de code low kinds nu (.s pr) t many (l19 mb lg b [(212,.bool lt)]))) (hS s lg lw code size kids (room (rgW s.rg js k0) s.mem [] [] (b_ x 3 F))) W EE:=by
 have I:=iv0 (js:=js) h k;have e2:ah (rgW s.rg js k0) 2=k0:=Nat.le_antisymm I.hi I.lo;cases lt with
 | false=>exact q
 | true =>
  refine .turn (qP (room (rgW s.rg js k0) s.mem [] [] []) (hS s lg lw code size kids []) (b_ x 3 F)) ?_;refine lawWalk (lw:=lw) (qO (hS s lg lw code size kids []) (.tail _ (.tail _ (.tail _ (.tail _ (.tail _ mr)))))) (a9 rfl) hr (bd0 k h20) I hm λw ew=>?_;rw[e2];subst ew;exact⟨_,qP (hS s lg lw code size kids []) (room _ _ _ _ []) (b_ x 3 F),q⟩
theorem f_max3E(e:max (max i j) k=l)(q:Q (.int l) fr L):HK d false (.bi 1) [.int i,.int j,.int k] fr L Q E:=f_max3 (e▸q)
theorem law22(ht:t.length<=1000)(q:n (lf (de code low kinds nu (.s pr) t many (l19 mb lg b ((212,.bool lt)::(213,r1)::[(23,.int (flr (kR alive o t low):Nat))])))) L W EE):
  i5 (wp d (iP (fY 22 Zx.x734)) false).stm n (lf (de code low kinds nu (.s pr) t many (l19 mb lg b [(212,.bool lt),(213,r1)]))) L W EE:=by
 refine dI (qC ht (by decide)) ?_;refine f_max3E (l:=(flr (kR alive o t low):Nat)) ?_ ?_
 .exact(qF (max · 1552) (fu (a:=1024+t.length) (b:=low))).trans (fu (b:=1552))
 exact q
end
end
section
section
variable {fr:Fr} {L:Hp} {d:Nat} {hd:Bool} {E:Hd->Fr->Hp->Prop} {Q:V->Fr->Hp->Prop} {W:Fl->Kn} {EE:Hd->Kn} {F A:Hp} {x:O} {r:List (Nat×V)} {code alive:Bool} {low kinds many pr mb:Nat} {nu:Hd} {t:List UInt8} {kids:List V} {size:Int} {n:Ab Fl} {s:Ms} {lg b r1:V} {o:Option Nat} {lw:Lw} {js:List Int} {k0 fl:Nat} {rg:List Nat} {rs:List Row} {lt:Bool} {w:Wr} {mem:List UInt8} {done:St->Prop}
noncomputable def oR(mb:Nat)(lg b r1:V)(lt:Bool)(fl:Nat)(r:List (Nat×V)):List (Nat×V):=l19 mb lg b ((212,.bool lt)::(213,r1)::(23,.int (fl:Nat))::r)
noncomputable def Rq2(r:List (Nat×V)):Prop:=∀u v,put 44 v (put 43 u r)=[(43,u),(44,v)]
noncomputable abbrev hT(s:Ms)(lg:V)(lw:Lw)(code:Bool)(size:Int)(kids:List V)(w:Wr)(x:O)(mb:Nat)(m:List UInt8)(F:Hp):Hp:=hR s lg lw code size kids w x ((.s mb,.barr m)::F)
noncomputable def StO(x:Nat×List UInt8×List UInt8):Prop:=x.1+4<=3072/\x.2.2.length=4
noncomputable def s23:X:=qc (fY 23 Zx.x734)
theorem tn_two{i j p p1 p2:Nat}{m:Ab Fl}{QQ:Fl->Kn}{EE:Hd->Kn}{u v:V}{K:St->Prop}(h:m ((fr.set i u).set j v) L (oC QQ K) EE):aU (λv=>((wp d (X.sq .tup (Zx.K (Zx.l i p) (Zx.K (Zx.l j p1) Zx.Z)) (Zx.P p2)) hd).asg v).bind λ_=>m) QQ EE (.tup [u,v]) (fr,L) K:=h
theorem stTurn{u:Nat}{v:List UInt8}{m:List UInt8}{rr:List (Nat×V)}{K:St->Prop}(hu:u+4<=3072)(hv:v.length=4)(hm:m.length=3072)(hr:s.rg.length=32)(f:Rq2 rr)
  (q:∀rr,Rq2 rr->K (lf (de code low kinds nu (.s pr) t many (oR mb lg b r1 lt fl rr)),hT s lg lw code size kids w x mb (if Rch fl (ah s.rg 2) u then m else ay m u v) F)) :
  aU (λv=>((wp d (X.sq .tup (Zx.K (Zx.l 43 594288) (Zx.K (Zx.l 44 516588) Zx.Z)) (Zx.P 1266288)) false).asg v).bind λ_=>(wp d s23 false).stms) W EE (.tup [.int ((1024+u:Nat):Int),.bytes v]) (lf (de code low kinds nu (.s pr) t many (oR mb lg b r1 lt fl rr)),hT s lg lw code size kids w x mb m F) K:=by
 refine tn_two ?_;refine(show ∀r',r'=_->(wp d s23 false).stms (lf (de code low kinds nu (.s pr) t many (oR mb lg b r1 lt fl r'))) (hT s lg lw code size kids w x mb m F) (oC W K) EE from λr' z=>z▸?_) _ (f _ _);have no:¬Rch fl (ah s.rg 2) u->(if Rch fl (ah s.rg 2) u then m else ay m u v)=ay m u v:=λz=>if_neg z;have lay:∀{L':Hp} {R:Unit->Kn} {E:Hd->Kn} {fr:Fr},(L'=hT s lg lw code size kids w x mb (ay m u v) F)->R () fr L'->UZ (.ref (.s mb)) (.int (((1024+u:Nat):Int) - 1024)) (.int (((1024+u:Nat):Int) - 1020)) (.bytes v) fr (hT s lg lw code size kids w x mb m F) R E:=λe q=>by
  have e1:((1024+u:Nat):Int) - 1024=(u:Int):=by lia
  have e2:((1024+u:Nat):Int) - 1020=((u+4:Nat):Int):=by lia
  refine(e1).symm▸?_;refine(e2).symm▸?_;refine gI (b:=m) (s:=u) (t:=u+4) ⟨hR s lg lw code size kids w x [],F,rfl,e.trans (by unfold ay;rw[hv];rfl)⟩ (d1 hm) (.int _) (.int _) ?_ ?_ (qF (u+·) hv) q
  .exact(cV (hm▸qC (qI u 4) hu)).symm
  .exact(cV (hm▸hu)).symm
 by_cases h1:fl<=1024+u
 .refine aJ (decide_eq_true (Int.ofNat_le.mpr h1)) ?_;refine b6 (i:=2) (a9 rfl) hr (by decide) ?_;by_cases h2:1024+u<ah s.rg 2
  .refine aB (qF not (lU (Int.ofNat_lt.mpr h2))) ?_;have q:=q [(43,.int ((1024+u:Nat):Int)),(44,.bytes v)] λ_ _=>rfl;rw[if_pos ⟨h1,h2⟩] at q;exact q
  .refine aJ (qF not (qh (Int.ofNat_le.mpr (Nat.not_lt.mp h2)))) ?_;refine lay (qF (λm=>hT s lg lw code size kids w x mb m F) (no λz=>h2 z.2)) ?_;exact q [(43,.int ((1024+u:Nat):Int)),(44,.bytes v)] λ_ _=>rfl
 .refine aB (decide_eq_false λz=>h1 (Int.ofNat_le.mp z)) ?_;refine lay (qF (λm=>hT s lg lw code size kids w x mb m F) (no λz=>h1 z.1)) ?_;exact q [(43,.int ((1024+u:Nat):Int)),(44,.bytes v)] λ_ _=>rfl
end
end
section
section
variable {fr:Fr} {L:Hp} {d:Nat} {hd:Bool} {E:Hd->Fr->Hp->Prop} {Q:V->Fr->Hp->Prop} {W:Fl->Kn} {EE:Hd->Kn} {F A:Hp} {x:O} {r:List (Nat×V)} {code alive:Bool} {low kinds many pr mb:Nat} {nu:Hd} {t:List UInt8} {kids:List V} {size:Int} {n:Ab Fl} {s:Ms} {lg b r1:V} {o:Option Nat} {lw:Lw} {js:List Int} {k0 fl:Nat} {rg:List Nat} {rs:List Row} {lt:Bool} {w:Wr} {mem:List UInt8} {done:St->Prop}
theorem Ch.sto{m m':List UInt8}{s:gm}(c:Ch m s m'):∀x∈s,StO x:=by
 induction c with
 | nil=>exact nofun
 | cons h al lo hi _ ih=>exact λx m=>by cases m with|head=>exact⟨hi,h⟩|tail _ m=>exact ih x m
theorem stLoop(hr:s.rg.length=32):∀(rest:gm) (j:Nat) (m:List UInt8) (rr:List (Nat×V)),w.s.drop j=rest->(∀x∈rest,StO x)->m.length=3072->Rq2 rr->(∀rr,Rq2 rr->done (lf (de code low kinds nu (.s pr) t many (oR mb lg b r1 lt fl rr)),hT s lg lw code size kids w x mb (fw fl (ah s.rg 2) m rest) F)) ->
  Lp Prod.snd (aU (λv=>((wp d (X.sq .tup (Zx.K (Zx.l 43 594288) (Zx.K (Zx.l 44 516588) Zx.Z)) (Zx.P 1266288)) false).asg v).bind λ_=>(wp d s23 false).stms) W EE) done (.lst (.l 49) j) (lf (de code low kinds nu (.s pr) t many (oR mb lg b r1 lt fl rr)),hT s lg lw code size kids w x mb m F)
 | [],j,m,rr,e,_,_,f,q=>.nil (us:=stV w.s) (dF (K:=bd) (.tail _ (.tail _ (.tail _ (bz (.tail _ (.tail _ (.tail _ (.head _))))))))) (by unfold stV;rw[<-List.head?_drop,<-List.map_drop,e];rfl) (q rr f)
 | p::rest,j,m,rr,e,h,hm,f,q=>by
  have hp:=h p (.head _);have hm':(if Rch fl (ah s.rg 2) p.1 then m else ay m p.1 p.2.2).length=3072:=by
   split
   .exact hm
   .exact(b8 (hm▸hp.2▸hp.1)).trans hm
  refine .cons (us:=stV w.s) (dF (K:=bd) (.tail _ (.tail _ (.tail _ (bz (.tail _ (.tail _ (.tail _ (.head _))))))))) (by unfold stV;rw[<-List.head?_drop,<-List.map_drop,e];rfl) (stTurn (K:=λs'=>Lp Prod.snd _ done (.lst (.l 49) (j+1)) s') hp.1 hp.2 hm hr f λrr' f'=>?_) λ_ h=>h;exact stLoop hr rest (j+1) _ rr' (by rw[<-List.tail_drop,e];rfl) (λx m=>h x (.tail _ m)) hm' f' q
theorem law23(hr:s.rg.length=32)(hs:∀x∈w.s,StO x){m:List UInt8}(hm:m.length=3072)(q:∀rr,n (lf (de code low kinds nu (.s pr) t many (oR mb lg b r1 lt fl rr))) (hT s lg lw code size kids w x mb (fw fl (ah s.rg 2) m w.s) F) W EE):
  i5 (wp d (iP (fY 23 Zx.x734)) false).stm n (lf (de code low kinds nu (.s pr) t many (oR mb lg b r1 lt fl []))) (hT s lg lw code size kids w x mb m F) W EE:=by
 refine aT (a9 rfl) rfl ?_;exact stLoop hr w.s 0 m [] rfl hs hm (λ_ _=>rfl) λrr _=>q rr
noncomputable def hU(s:Ms)(lg:V)(lo:O)(wd:List Nat)(di:Nat)(dc:List (Int×V))(ho:O)(lw:Lw)(code:Bool)(size:Int)(kids:List V)(w:Wr)(x:O)(F:Hp):Hp:=am s lg lo (au wd di dc ho (a_ lw (func code size kids (room w.rg w.mem w.s w.out (b_ x 3 F)))))
theorem law24{rr:List (Nat×V)}(m:(nu,O.list (js.map V.int))∈F)(K:Kids F kids many)(k:K0 s.rg k0)(ok:j2 lw.stop)(g:Go k0 0 rs (s1 s js k0) [] [])(hr:RG s.rg)(ht:lw.text.length<=1000)(hn:js.length<=8)(hmany:many<=8)(elt:lt=j1 lw code js many)(ho:s.out=[])(ew:w=wnL lt lw rs s js k0)
  (q:∀kn lo wd di dc ho,Din di dc ho->n (lf (de code low kinds nu (.s pr) t many (oR mb lg b r1 lt fl (put 215 (hv (bkB w k0) w) rr)))) (hU (aft lw s w kn) lg lo wd di dc ho lw code size kids w x ((.s mb,.barr mem)::F)) W EE) :
  i5 (wp (d+19) (iP (fY 24 Zx.x734)) false).stm n (lf (de code low kinds nu (.s pr) t many (oR mb lg b r1 lt fl rr))) (hT s lg lw code size kids w x mb mem F) W EE:=by
 have z:∀p∈F,p∈room w.rg w.mem w.s w.out (b_ x 3 ((.s mb,.barr mem)::F)):=λp h=>bh (.tail _ (.tail _ (.tail _ (.tail _ (.tail _ (.tail _ h))))));exact heard_ k.hk ok g hr ht (K.mono z) (z _ m) hn hmany elt (by rw[ho];exact ew) q
end
end
section
section
variable {fr:Fr} {L:Hp} {d:Nat} {E:Hd->Fr->Hp->Prop} {Q:V->Fr->Hp->Prop} {W:Fl->Kn} {EE:Hd->Kn} {F A:Hp} {x lo ho:O} {r:List (Nat×V)} {code alive:Bool} {low kinds many pr mb di:Nat} {nu:Hd} {t:List UInt8} {kids:List V} {size:Int} {n:Ab Fl} {s:Ms} {lg b r1:V} {o:Option Nat} {lw:Lw} {k0 fl:Nat} {lt bb:Bool} {w:Wr} {mem:List UInt8} {wd:List Nat} {dc:List (Int×V)} {rr:List (Nat×V)}
theorem dG{p:Hd×O}(h:p∈F):p∈hU s lg lo wd di dc ho lw code size kids w x F:=av (ao (bw (bz (bh (.tail _ (.tail _ (.tail _ (.tail _ (.tail _ h)))))))))
theorem sh25(hl:LgO lg x)(hr:s.rg.length=32)(q:∀r2 lv2 P2,ShO s.rg r2 lg lv2 P2->Q (shV s r2 lv2) fr (hU s lg lo wd di dc ho lw code size kids w x (P2++F))):HK (d+2) false (.top 715) [.ref (.l 5)] fr (hU s lg lo wd di dc ho lw code size kids w x F) Q E:=by
 refine .dp (shown_ hr hl (F:=au wd di dc ho (a_ lw (func code size kids (room w.rg w.mem w.s w.out (b_ x 3 F))))) (ao (bw (bz (bh (.tail _ (.tail _ (.head _))))))) λr2 lv2 P2 hP2=>?_);exact⟨_,qP (hU s lg lo wd di dc ho lw code size kids w x []) P2 F,q r2 lv2 P2 hP2⟩
theorem law25{r:Nat}{lv:V}{P:Hp}(hl:LgO lg x)(hw:RG w.rg)(hr:s.rg.length=32)(hP:ShO s.rg r lg lv P)(up:∀p∈P,p∈F)
  (q:∀P',n (lf (de code low kinds nu (.s pr) t many (oR mb lg (shV s r lv) (.bool bb) lt fl (put 215 (hv bb w) rr)))) (hU s lg lo wd di dc ho lw code size kids w x (P'++F)) W EE) :
  i5 (wp (d+2) (iP (fY 25 Zx.x734)) false).stm n (lf (de code low kinds nu (.s pr) t many (oR mb lg (shV s r lv) (.bool bb) lt fl (put 215 (hv bb w) rr)))) (hU s lg lo wd di dc ho lw code size kids w x F) W EE:=by
 refine i0 (c6 215 215 _ rr) ?_;cases bb with
 | true =>
  refine aT (a9 rfl) rfl ?_;refine b6 (i:=10) (a9 rfl) hw.len (by decide) ?_;refine jL (k:=1) (l:=1) (g8 (aG fh (aG ca bD))) (g8 (aG fh (aG ca bD))) (by decide) (by decide) rfl ?_;refine aB rfl ?_;refine sh25 hl hr λr2 lv2 P2 hP2=>?_;refine o_sh hP2 hP (λp h=>dG (List.mem_append_left F h)) (λp h=>dG (qO P2 (up p h))) ?_;exact q P2
 | false =>
  refine jL (k:=1) (l:=1) (g8 (aG fh (aG ca bD))) (g8 (aG fh (aG ca bD))) (by decide) (by decide) rfl ?_;refine aB rfl ?_;refine sh25 hl hr λr2 lv2 P2 hP2=>?_;refine o_sh hP2 hP (λp h=>dG (List.mem_append_left F h)) (λp h=>dG (qO P2 (up p h))) ?_;exact q P2
theorem law26(hl:LgO lg x)(hD:Din di dc ho)(e:lw.lev=1+(low:Int) / 800)(q:∀p,n (lf (de code low kinds nu (.s pr) t many (oR mb lg b r1 lt fl rr))) (hU s lg lo wd di dc ho lw code size kids w x (p::F)) W EE):
  i5 (wp d (iP (fY 26 Zx.x734)) false).stm n (lf (de code low kinds nu (.s pr) t many (oR mb lg b r1 lt fl rr))) (hU s lg lo wd di dc ho lw code size kids w x F) W EE:=by
 have m:∀{F:Hp},(.l di,O.dict [])∈hU s lg lo wd di dc ho lw code size kids w x F:=hD.elim (λh=>h.1▸h.2▸a9 rfl) λh=>h.1▸h.2▸a9 rfl;cases hl with
 | no =>
  refine .sym (hU s .non lo wd di dc ho lw code size kids w .hole []) F rfl λa=>?_;refine o_neD m (dG (.head _)) ?_;refine aB rfl ?_;refine aB (qF not (bj e)) ?_;exact q _
 | yes =>
  refine o_nsame ?_;refine .sym (hU s (.ref (.l 51)) lo wd di dc ho lw code size kids w (.list lgL) []) F rfl λa=>?_;refine o_neD m (dG (.head _)) ?_;refine aB rfl ?_;refine aB (qF not (bj e)) ?_;exact q _
theorem rd_oc{l:List UInt8}{n:Hd}(m:(n,O.list (q5 l))∈L):Rd L 1 (.ref n) (.list ((l.map λb=>(b.toNat:Int)).map .int)):=mD (us:=(l.map λb=>(b.toNat:Int)).map V.int) (by rw[List.map_map];exact m) hY
theorem law27(hm:s.mem=mem)(ho':s.out=w.out)(h:w.out.length<=1000000)(m:(.s mb,.barr mem)∈F)(q:∀fr L,(.l 0,.tab 3)∈L->W (.ret (.bool true)) fr L):
  i5 (wp d (iP (fY 27 Zx.x734)) false).stm n (lf (de code low kinds nu (.s pr) t many (oR mb lg b r1 lt fl rr))) (hU s lg lo wd di dc ho lw code size kids w x F) W EE:=by
 subst hm;refine o_eqB (bs:=s.mem) (a9 rfl) (dG m) ?_;refine f_listB (bs:=s.out) (a9 rfl) (ho'▸h) (.sym (hU s lg lo wd di dc ho lw code size kids w x []) F rfl λa=>?_);refine aT (a9 rfl) rfl ?_;refine o_sameE (x:=.list ((w.out.map λb=>(b.toNat:Int)).map .int)) (k:=1) (l:=1) (ho'▸rd_oc (l:=s.out) (dG (.head _))) (rd_oc (a9 rfl)) (by decide) (by decide) ic ?_;exact q _ _ (a9 rfl)
end
end
section
section
variable {rs:List Row} {bs z:List UInt8} {rg:List Nat} {mem:List UInt8} {k0:Nat} {js:List Int} {lt:Bool} {lw:Lw} {s:Ms}
theorem of_le:∀{n k:Nat},k<256 ^ n->bn (f5 n k)=k
 | 0,k,h=>(Nat.lt_one_iff.mp h).symm
 | n+1,k,h=>by
  show(k % 256).toUInt8.toNat+256*bn (f5 n (k / 256))=k;refine(of_le (Nat.div_lt_of_lt_mul (Nat.lt_of_lt_of_eq h ((Nat.pow_succ ..).trans (Nat.mul_comm ..))))).symm▸?_;refine(show(k % 256).toUInt8.toNat=k % 256 from(UInt8.toNat_ofNat' ..).trans (Nat.mod_mod k 256)).symm▸?_;exact Nat.mod_add_div k 256
theorem oq:∀n:Nat,bn (List.replicate n 0)=0
 | 0=>rfl
 | n+1=>qF (0+256*·) (oq n)
theorem lm:∀{l:List Row} {j:Nat} {r:Row},l[j]?=some r->aw ((pH l).flatten++z) (4*j) 4=f5 4 r.word
 | r::l,0,_,e=>by
  cases e;refine(?_:((f5 4 r.word++(pH l).flatten)++z).take 4=_);exact List.take_left' (fA 4 _)
 | r::l,j+1,r',e=>by
  refine(?_:(((f5 4 r.word++(pH l).flatten)++z).drop (4*j+4)).take 4=_);exact lm (l:=l) e
theorem code_at(h20:rs.length<=20)(hr:Rows rs):Cd rs 0 (ay (gg (bK rs)) 2048 bs):=by
 exists h20 hr,zL rs,zL bs;intro i r e;have tl:(bK rs).length=4*(rs.length+1):=fN (eU rs);have ht:(bK rs).length<=500:=tl▸qC (qS 4 (r7 h20)) (by decide);have hi:i<rs.length+1:=Nat.lt_of_lt_of_eq (List.getElem?_eq_some_iff.mp e).1 List.length_append;have u:4+4*(0+i)+4<=512:=by rw[Nat.zero_add];exact qC (qQ (qN (qS 4 (qC (Nat.le_of_lt_succ hi) h20)) 4) 4) (by decide)
 have eu:4+4*(0+i)=4*(i+1):=by rw[Nat.zero_add];exact Nat.add_comm ..
 rw[cy (by rw[fz ht];decide) (qC u (by decide))];unfold gg;refine(cy (by rw[fy ht];decide) u).symm▸?_;refine(eu).symm▸?_;show bn (aw ((bK rs)++me0.drop (0+(bK rs).length)) (4*(i+1)) 4)=_;by_cases h:i<rs.length
 .rw[List.getElem?_append_left h] at e;unfold bK;refine(lm (l:=eU rs) (j:=i+1) e).symm▸?_;exact of_le (nZ (hr r (List.mem_of_getElem? e)).1)
 .have hi:i=rs.length:=Nat.le_antisymm (Nat.le_of_lt_succ hi) (Nat.not_lt.mp h);subst hi;rw[List.getElem?_append_right (qW _),Nat.sub_self] at e;cases e;unfold aw;refine(tl)▸?_;refine(List.drop_left).symm▸?_;unfold me0;refine(List.drop_replicate).symm▸?_;refine(List.take_replicate).symm▸?_;exact oq _
structure WnO (w:Wr):Prop where
 rg:RG w.rg
 sto:∀x∈w.s,StO x
 out:w.out.length<=1000000
theorem wn_ok(h:SpO s.rg)(k:K0 s.rg k0)(hm:s.mem.length=3072)(hr:Rows rs)(h20:rs.length<=20):WnO (wnL lt lw rs s js k0):=by
 have I:=iv0 (js:=js) h k;cases lt with
 | false=>exact⟨I.hr,nofun,r0 _⟩
 | true =>
  have z:=jy (o:=lw.stop) rs 0 (rgW s.rg js k0) s.mem [] (bd0 k h20) hr I hm;exact⟨z.1,z.2.1.sto,qC z.2.2 (qC (qN h20 0) (by decide))⟩
end
end
section
theorem k8{d:Nat}{fr:Fr}{L:Hp}{W:Fl->Kn}{EE:Hd->Kn}(j:Nat)(e:fY j Zx.x734=.cons (iP (fY j Zx.x734)) (fY (j+1) Zx.x734))(h:i5 (wp d (iP (fY j Zx.x734)) false).stm (LT (j+1) d) fr L W EE):LT j d fr L W EE:=by
 unfold LT;rw[e];exact h
theorem theLaw(h63:sInts.length<=63):LT 0 29 (lf []) Ls0 (λf _ L=>f=.ret (.bool true)/\(.l 0,.tab 3)∈L) lQ:=by
 refine law1 h63 λns k F hn=>?_;refine law2 (d:=28) hn λk alive code low kinds _=>?_;refine law3 (d:=25) hn λk nu pr is rs h8 hr h1 h20=>?_;refine law5 (d:=25) hr h1 h20 λF1 u1=>?_;refine law6 (d:=25) hn (λk many kids F2 hm K u2=>?_) h20;refine law7 (d:=25) (u2 _ (u1 _ (.head _))) h8 λF3 nl js u3 j8 mj=>?_;refine law8 (d:=25) hn (λk o ok=>?_) rfl;have tl:(bK rs).length=4*(rs.length+1):=fN (eU rs);have ht:(bK rs).length<=500:=tl▸qC (qS 4 (r7 h20)) (by decide);refine k8 9 rfl (law9 (d:=26) ?_);refine k8 10 rfl (law10 (d:=24) ht ?_);refine k8 11 rfl (law11 ?_);refine k8 12 rfl (law12 (d:=25) hn ht λrg bs pc st lg x sp hb hl=>?_);refine k8 13 rfl (law13 (d:=25) ?_);refine k8 14 rfl (law14 ?_);refine k8 15 rfl (law15 ?_);refine k8 16 rfl (law16 ?_);refine k8 17 rfl (law17 ?_);have hm3:(ay (gg (bK rs)) 2048 bs).length=3072:=(b8 (by rw[fz ht,hb];decide)).trans (fz ht);obtain⟨k0,kk⟩:=sp.spk;refine k8 18 rfl (law18 (d:=27) sp.hr.len hm3 hl λr lv P mb hP=>?_);have mj2:(.s nl,.list (js.map V.int))∈P++(.s pr,b7 rs)::F3:=qO P (.tail _ mj);refine k8 19 rfl (law19 (d:=27) (.tail _ mj2) j8 sp.hr hm3 kk.hk ?_);refine k8 20 rfl (law20 (d:=27) (w:=⟨false,rgW rg js k0,_,[],[]⟩) (.tail _ mj2) j8 ?_);refine k8 21 rfl (law21 (d:=26) (.tail _ (qO P (.head _))) hr h20 sp kk hm3 ?_);refine k8 22 rfl (law22 (alive:=alive) (o:=o) (qC ht (by decide)) ?_);have Z:=wn_ok (lt:=j1 (kR alive o (bK rs) low) code js many) (lw:=kR alive o (bK rs) low) (s:=msL rg (ay (gg (bK rs)) 2048 bs) pc st) (js:=js) sp kk hm3 hr h20;refine k8 23 rfl (law23 sp.hr.len Z.sto hm3 λrr=>?_);have g:Go k0 0 rs (s1 (msL rg (ay (gg (bK rs)) 2048 bs) pc st) js k0) [] []:=⟨bd0 kk h20,hr,code_at h20 hr,iv0 sp kk,rfl,hm3,nofun,r0 _,.nil,r0 _,r0 _,rfl⟩;refine k8 24 rfl (law24 (d:=10) mj2 (K.mono λp h=>qO P (.tail _ (u3 p h))) kk ok g sp.hr (qC ht (by decide)) j8 (qC hm (by decide)) rfl rfl rfl λkn lo wd di dc ho hD=>?_);refine k8 25 rfl (law25 (d:=27) (s:=aft (kR alive o (bK rs) low) (msL rg (ay (gg (bK rs)) 2048 bs) pc st) (wnL (j1 (kR alive o (bK rs) low) code js many) (kR alive o (bK rs) low) rs (msL rg (ay (gg (bK rs)) 2048 bs) pc st) js k0) kn) hl Z.rg sp.hr.len hP (λp h=>.tail _ (List.mem_append_left _ h)) λP'=>?_);refine k8 26 rfl (law26 hl hD rfl λp=>?_);refine k8 27 rfl (law27 rfl rfl Z.out (.tail _ (qO P' (.head _))) λ_ _ m=>⟨rfl,m⟩)
end
section
noncomputable abbrev bt:Obj:={cls:=.type "cell",data:=.cell none}
noncomputable abbrev mT:Obj:={cls:=.type "frame",data:=.dict #[]}
noncomputable abbrev lsc:Scope:=mx fZ
noncomputable abbrev kU(L:Nat):Env:=newEnv lsc L mainGlobals [(nm 56,L+1+1+1+1),(nm 47,L+1+1+1),(nm 198,L+1+1),(nm 176,L+1)] (Str.ofString "law"++Str.ofString ".<locals>.") (some 734) (.ref 733) none builtinsNs
theorem l_cells(n:Nat):PySem.cellsFrom n lsc.names []=[(nm 56,n+1+1+1),(nm 47,n+1+1),(nm 198,n+1),(nm 176,n)]:=by rfl'
theorem l_push(h:Heap):PySem.pushCells h lsc.names=(((h.push bt).push bt).push bt).push bt:=by rfl'
theorem mP:lsc.kind=.function:=by rfl'
theorem l_loc:lsc.names.lookup (nm 197)=some .local:=by rfl'
theorem l_env{A:Around}{E:Value->Shared->Prop}{s:Shared}{v:Value}{Q:Env->Shared->Prop}(q:∀h' tk,h'.Ns s.heap.objs.size (λx=>if x=nm 197 then some v else none)->Heap.SameBut s.heap.objs.size (((((s.heap.push mT).push bt).push bt).push bt).push bt) h'->Q (kU s.heap.objs.size) {s with heap:=h',toks:=tk}):
  PySem.wpAny M A (newFunctionEnv lsc mainGlobals [] [(nm 197,v)] (Str.ofString "law"++Str.ofString ".<locals>.") (some 734) (.ref 733) none builtinsNs) Q E s:=by
 revert q;revert A E s v Q;refine @al5 _ _ _ _ _ zA aN zS zV aN ?P ((?f:∀a b c d e,?P a b c d e) _ _ _ _ _);intro A E s v Q q;simp only[newFunctionEnv,Option.isSome_none,Bool.false_eq_true,if_false];refine qA (PySem.wpAny_alloc ?_);refine qA (PySem.wpAny_layCells _ (λname kind cells=>by cases hkc:kind==NameKind.cell<;>simp[hkc]) _ _ _ _ ?_);rw[l_cells,l_push,Heap.size_push];rw[List.forIn_cons];refine qA (qA (qA ?_));refine PySem.wpAny_storeName_local (env:=kU s.heap.objs.size) l_loc (m:=λ_=>none) ?_ (λh' hn sb=>?_) (by rw[show(kU s.heap.objs.size).scope.kind=.function from mP];rfl)
 .exact⟨mT,#[],0,qE _ (qE _ (qE _ (qE _ (qK _ rfl)))),rfl,λe he=>by simp at he,λ_=>rfl⟩
 .refine qB ?_;dsimp only;rw[List.forIn_nil];exact qB (qB (q h' _ hn sb))
noncomputable def lθ(n:Nat):Hd->Option Addr
 | .l k=>if 1<=k/\k<=4 then some (n+k) else none
 | .s _=>none
theorem lθ_e{n:Nat}{a:Addr}{h:Hd}(e:lθ n h=some a):∃k,h=.l k/\1<=k/\k<=4/\a=n+k:=by
 cases h with
 | l k =>
  by_cases z:1<=k/\k<=4
  .exact⟨k,rfl,z.1,z.2,(qJ ((if_pos z).symm.trans e)).symm⟩
  .cases(if_neg z).symm.trans e
 | s k=>cases e
noncomputable def lown(n a:Nat):Prop:=n<a/\a<n+5
noncomputable def hdN:Hd->Nat
 | .l k=>k
 | .s _=>0
theorem l0_keys:(Ls0.map λp=>hdN p.1).Nodup:=by decide +kernel
noncomputable def kdL(k:Nat):O:=if k=0 then .tab 0 else if k<=4 then .cell none else .hole
theorem l0_all:Ls0=(Ls0.map λp=>hdN p.1).map λk=>(Hd.l k,kdL k):=by rfl'
theorem cell_at{h:Heap}{j:Nat}(k:Nat)(e:h.objs.size=j)(hk:k<4):((((h.push bt).push bt).push bt).push bt).get? (j+k)=some bt:=by
 exists e hk,zH h,zN j,zN k;subst e;have s1:(h.push bt).objs.size=h.objs.size+1:=Heap.size_push ..;have s2:((h.push bt).push bt).objs.size=h.objs.size+2:=(Heap.size_push ..).trans (qF (·+1) s1);have s3:(((h.push bt).push bt).push bt).objs.size=h.objs.size+3:=(Heap.size_push ..).trans (qF (·+1) s2);cases k with
 | zero=>exact qE _ (qE _ (qE _ (qK _ rfl)))
 | succ k=>cases k with
  | zero=>exact qE _ (qE _ (s1▸qK _ rfl))
  | succ k=>cases k with
   | zero=>exact qE _ (s2▸qK _ rfl)
   | succ k=>cases k with
    | zero=>exact s3▸qK _ rfl
    | succ k=>exact absurd hk (Nat.not_lt.mpr (Nat.le_add_left 4 k))
section
variable {s:Shared} {h':Heap} {tk:Nat}
noncomputable abbrev lG(n:Nat):G:=⟨29,callerA.deeper (kU n),[kU n],kU n,false⟩
theorem law_now(es:s.heap=wit.h)(hn:h'.Ns s.heap.objs.size (λx=>if x=nm 197 then some (.ref jc) else none))(sb:Heap.SameBut s.heap.objs.size (((((s.heap.push mT).push bt).push bt).push bt).push bt) h'):
  Now (lG s.heap.objs.size) (lf []) Ls0 ⟨lθ s.heap.objs.size,lown s.heap.objs.size,{s with heap:=h',toks:=tk}⟩:=by
 exists es hn sb,zS s,zH h',zN tk;have kp:∀{a o},s.heap.get? a=some o->h'.get? a=some o:=λ{a o} e=>(sb.2 a (q_ (qZ e))).trans (qE _ (qE _ (qE _ (qE _ (qE _ e)))));have z:h'.objs.size=s.heap.objs.size+5:=sb.1.trans ((Heap.size_push ..).trans (qF (·+1) ((Heap.size_push ..).trans (qF (·+1) ((Heap.size_push ..).trans (qF (·+1) ((Heap.size_push ..).trans (qF (·+1) (Heap.size_push ..)))))))));have cl:∀{k},k<4->h'.get? (s.heap.objs.size+1+k)=some bt:=λ{k} hk=>(sb.2 _ (Nat.ne_of_gt (qL (Nat.lt_succ_self _) (qI _ k)))).trans (cell_at k (Heap.size_push ..) hk);have sB:Bs.objs.size=s.heap.objs.size:=(Heap.size_update ..).trans (es▸rfl);have keep:∀b o,Bs.get? b=some o->h'.get? b=some o:=λb o e=>by
  have ne:b≠731:=λq=>by rw[q] at e;cases bs_tab.symm.trans e
  exact kp (es▸(Heap.get?_update_other _ _ (Ne.symm ne)).symm.trans e)
 generalize hL:s.heap.objs.size=n at *;refine⟨⟨rfl,⟨_,_,rfl,rfl⟩,λ_=>rfl,show callerA.depth+1+(8*29+60)<=recursionLimit by decide +kernel,show callerA.units+3+(60*29+300)<=cLine by decide +kernel,mP,rfl,rfl⟩,⟨⟨keep,?_⟩,⟨0,λ_ _=>rfl⟩,λa b c e e'=>?_,λa b e=>?_,λa q=>sB▸Nat.le_of_lt q.1,λa q=>?_,?_,λm o q=>?_⟩,⟨⟨_,hn,λi v e=>?_⟩,λi j e hk=>?_,λq=>Nat.lt_irrefl _ q.1,qU sB⟩,⟨λe he=>?_,nofun⟩⟩
 .show Bs.objs.size<=h'.objs.size;rw[sB,z];exact qI ..
 .refine nn λno=>?_;obtain⟨k,e1,_,_,e2⟩:=lθ_e e;obtain⟨k',e1',_,_,e2'⟩:=lθ_e e';refine no ?_;rw[e1,e1',Nat.add_left_cancel (e2.symm.trans e2')]
 .refine nn λno=>?_;obtain⟨k,_,h1,h4,e2⟩:=lθ_e e;refine no ?_;exact e2▸⟨Nat.lt_add_of_pos_right h1,Nat.add_lt_add_left (Nat.lt_succ_of_le h4) n⟩
 .show a<h'.objs.size;rw[z];exact q.2
 .exact(List.pairwise_map.mp l0_keys).imp λh e=>h (qF hdN e)
 .rw[l0_all] at q;obtain⟨k,_,q⟩:=List.mem_map.mp q;cases q;by_cases h0:k=0
  .cases h0;exact .no 0 rfl rfl ⟨rfl,⟨#[],kp (es▸wit.keep _ _ (hV _)),trivial,λ_ _=>rfl⟩⟩
  .by_cases h4:k<=4
   .rw[show kdL k=.cell none from(if_neg h0).trans (if_pos h4)];refine .ob _ _ (if_pos ⟨Nat.pos_of_ne_zero h0,h4⟩) ?_ λ_ _=>⟨none,rfl,trivial⟩;have:=cl (qL (Nat.pred_lt h0) h4)
    rwa [Nat.add_assoc,Nat.add_comm 1,show k.pred+1=k from Nat.succ_pred h0] at this
   .rw[show kdL k=.hole from(if_neg h0).trans (if_neg h4)];exact .no k (if_neg λz=>h4 z.2) rfl trivial
 .have e:(match Nat.beq 197 i with|true=>some (V.top jc)|false=>none)=some v:=e;cases q:Nat.beq 197 i with
  | true =>
   rw[q] at e;cases e;rw[<-qH q];exact⟨.ref jc,if_pos rfl,λ_ _=>rfl⟩
  | false=>rw[q] at e;cases e
 .have m:=ia e;cases m with
  | head=>exact⟨n+1,by rfl',rfl⟩
  | tail _ m=>cases m with
   | head=>exact⟨n+2,by rfl',rfl⟩
   | tail _ m=>cases m with
    | head=>exact⟨n+3,by rfl',rfl⟩
    | tail _ m=>cases m with
     | head=>exact⟨n+4,by rfl',rfl⟩
     | tail _ m=>cases m
 .rw[List.mem_singleton] at he;subst he;refine nn λno=>?_;obtain⟨o,es',k,ho,hd,_⟩:=hn;refine no ?_;exact⟨n,o,es',k,by rw[show(kU n).scope.kind=.function from mP];nofun,rfl,ho,hd,λq=>Nat.lt_irrefl _ q.1,qU sB⟩
end
end
theorem kd_law(n:Nat):kd (kU n) Zx.x734=true:=by rfl'
theorem old_of{s:Shared}{y:Y}{L:Hp}(es:s.heap=wit.h)(R:Rel y L)(m:(.l 0,.tab 3)∈L):OldK wit.h y.h:=by
 have here:∃ps,y.h.get? 731=some (tabObj ps):=by
  cases R.obj _ _ m with
  | ob a ob e g r=>exact(r _ (.refl _)).elim
  | no k e hn r=>cases r.2 with|mk ps e t n=>exact⟨ps,e⟩
 refine nn λno=>?_;obtain⟨ps,here⟩:=here;refine no ?_;have eT:=wit.keep _ _ (hV _);have kp:∀{a o},a≠731->wit.h.get? a=some o->y.h.get? a=some o:=λhn e=>R.up.keep _ _ ((Heap.get?_update_other _ _ (Ne.symm hn)).trans e);refine⟨λa o e=>?_,λa o e=>?_⟩
 .by_cases z:a=731
  .subst z;rw[eT] at e;cases e;refine nn λno=>?_;obtain⟨o,vs,file,tf,flags,tg,inF,text,tt,e1,e2,e3,e4,_⟩:=tab733 w0.params;refine no ?_;exact .inr (.inl ⟨⟨733,o,vs,wit.keep _ _ e1,e2,e3,e4⟩,rfl,#[],ps,rfl,by rw[Array.empty_append];exact here⟩)
  .exact .inl (kp z e)
 .by_cases z:a=731
  .subst z;exact⟨_,here⟩
  .exact⟨o,kp z e⟩
theorem law_good:Good wit:=λs Q E es hg q=>by
 have kp:∀{a o},(HF w0.params).get? a=some o->s.heap.get? a=some o:=λe=>es▸wit.keep _ _ e;refine aZ (bT (fd:=fn_ fZ "law" "law" 3 .none (s_ "law_og0218_01" 1194) (.ref 733)) (body:=xss Zx.x734) (by decide +kernel) (o:=o734) (kp (by rfl')) rfl (by rfl') (by rfl') (by rfl') ⟨733,o733,_,_,rfl,kp (by rfl'),rfl,rfl⟩ ?_);refine dL (ns:=[nm 197]) (by rfl') (by rfl') (by rfl') (by rfl') (by rfl') (List.pairwise_singleton _ _) rfl (lB (.inl rfl)) ?_;refine lw (l_env λh' tk hn sb=>?_);have N:=law_now es hn sb (tk:=tk);refine⟨nolim N.rel.up,fQ ?_⟩;refine(snd Zx.x734).stms (g:=lG s.heap.objs.size) ⟨_,N⟩ (kd_law _) ⟨⟨_,rfl⟩,rfl⟩ _ lQ (.mk _ _ ⟨λw' a b l r qq=>?_,λw' n e l x qq=>qq.elim⟩) (theLaw wit.len);obtain⟨rfl,mt⟩:=qq;obtain⟨x,rfl,rx⟩:=r;cases rx.now;exact q _ (old_of es w'.now.rel mt) l.os (l.gens.trans hg)
theorem openM:∀w:World,(fencedOpening treeTable pwM w 6000).map (λs=>(s.heap,s.gens,s.drawn,s.toks))=some (boot_heap w.params,Array.mk [],boot_drawn,boot_toks) :=
 boot_open (p:=pwM) (N:=6000) (by rfl') (by rfl') (λs=>by rfl')
theorem sizeM(w:World):((boot_heap w.params).isNs mainGlobals&&(#[]:Array GenState).size==0,(boot_heap w.params).objs.size,(boot_heap w.params).nsMap mainGlobals "__annotations__")=(true,11,some (.ref 6)):=by rfl'
theorem lk1(w:World):(staticsOk (importedModules pwM.main.body) (boot_heap w.params) (HF w.params))=true:=by rfl'
theorem lk2(w:World):namesBound pwM (HF w.params)=true:=by rfl'
theorem lk3(w:World):laidKept (boot_heap w.params) (HF w.params)=true:=by rfl'
abbrev sF(w:World)(os:OsState):Shared:=⟨HF w.params,#[],{},1350,os⟩
theorem lk4(w:World)(os:OsState):seen ((recsOf qM).map (·.name)) (ownsOf qM) [] {sF w os with gens:=#[]}=expectedOf qM:=by rfl'
theorem lk5(w:World):(HF w.params).bltView=bltViewBooted:=by rfl'
theorem lk6(w:World):(HF w.params).keysOk (looseW qM bx) ((recsOf qM).map (·.name)) ((litsOf qM).map (·.1)) ((clssOf qM (looseW qM bx)).map (·.name))=true:=by rfl'
theorem lk7(w:World):(HF w.params).accountedOkI (importedModules pwM.main.body)=true:=by rfl'
theorem lk8(w:World):((HF w.params).isNs mainGlobals&&(HF w.params).isNs builtinsNs)=true:=by rfl'
theorem lk9(w:World):tablesOk qM (HF w.params)=true:=by rfl'
theorem lk10(w:World)(os:OsState):tabsOk qM (sF w os)=true:=by rfl'
theorem lk11(w:World)(os:OsState):pinSeenD qM (drecsOf qM) (sF w os)=pinGoodD (drecsOf qM):=by rfl'
theorem lk12(w:World)(os:OsState):plainSeenE qM (looseW qM bx) (sF w os)=plainGoodE qM (looseW qM bx):=by rfl'
theorem lk13(w:World)(os:OsState):plainSeenD qM bx (sF w os)=plainGoodD qM bx:=by rfl'
theorem lk14(w:World)(os:OsState):wideSeen qM (sF w os)=wideGood qM:=by rfl'
theorem lk15(w:World)(os:OsState):clsSeenW qM bx (sF w os)=clsGoodW qM bx:=by rfl'
theorem looksM(w:World):(λos=>((staticsOk (importedModules pwM.main.body) (boot_heap w.params) (HF w.params)&&namesBound pwM (HF w.params)&&gensDone (sF w os)&&laidKept (boot_heap w.params) (HF w.params)),openSeen qM bx (importedModules pwM.main.body) (λ_=>true) true (sF w os),(sF w os).heap))=λ_=>(true,openGood qM bx,HF w.params):=by
 funext os
 have a:(staticsOk (importedModules pwM.main.body) (boot_heap w.params) (HF w.params)&&namesBound pwM (HF w.params)&&gensDone (sF w os)&&laidKept (boot_heap w.params) (HF w.params))=true:=by rw[lk1,lk2,lk3];rfl
 have b:openSeen qM bx (importedModules pwM.main.body) (λ_=>true) true (sF w os)=openGood qM bx:=by
  unfold openSeen openGood;have h8:=lk8 w;obtain⟨h8a,h8b⟩:=Bool.and_eq_true_iff.mp h8;rw[lk4,lk10,lk11,lk12,lk13,lk14,lk15];show(_,(HF w.params).bltView,((HF w.params).keysOk _ _ _ _&&(HF w.params).accountedOkI _&&(HF w.params).isNs mainGlobals&&(HF w.params).isNs builtinsNs&&tablesOk qM (HF w.params)&&true&&true),_)=_;rw[lk5,lk6,lk7,h8a,h8b,lk9];rfl
 rw[a,b]
theorem leftM:LeftO pwM qM bx (λ_=>true) (λs=>s.heap) (λw=>HF w.params) 6000 :=
 LeftO.of_pieces (H₀:=boot_heap) (H₁:=HF) openM sizeM runM (by rfl') looksM
def rwM:OpenLaw:={prog:=pwM,name:=(PySem.Str.ofString "law"),about:=[(PySem.Str.ofString "called")],foot:=15,most:=some 63,bound:=none,writes:=false}
theorem rw_eq:PySem.Challenge.rw_og0218_01=rwM:=rfl
theorem readsM:((["vars","dir","locals"]:List Str).filter (readsOut pwM pwM.main.body))=[]:=by rfl'
theorem looksO:looksOpen pwM=true:=by
 unfold looksOpen;rw[readsM];exact look_both (look_both (look_both (look_both (look_both (by rfl') (by rfl')) (by rfl')) (by rfl')) (by rfl')) (by rfl')
theorem pX:rwM.row.partSaid=true:=by
 unfold OpenRow.partSaid;exact look_both (look_both (look_both (look_both (look_both (look_both (look_both (look_both (look_both (look_both (look_both (look_both (look_both (looksO) (by rfl')) (by rfl')) (by rfl')) (by rfl')) (by rfl')) (by rfl')) (by rfl')) (by rfl')) (by rfl')) (by rfl')) (by rfl')) (by rfl')) (by rfl')
theorem og:rwM.row.wellSaid=true:=by
 unfold OpenRow.wellSaid;exact look_both (look_both pX (by rfl')) (by rfl')
theorem lawSaid:rwM.wellSaid=true:=by
 unfold OpenLaw.wellSaid;exact look_both (look_both (look_both (look_both (look_both (look_both (look_both (look_both (look_both (look_both (look_both (look_both (look_both (look_both (look_both (look_both (look_both (look_both (og) (by rfl')) (by rfl')) (by rfl')) (by rfl')) (by rfl')) (by rfl')) (by rfl')) (by rfl')) (by rfl')) (by rfl')) (by rfl')) (by rfl')) (by rfl')) (by rfl')) (by rfl')) (by rfl')) (by rfl')) (by rfl')
def dM:DefRec:={name:=Str.ofString "law",params:=argsS fZ,body:=bodyS fZ,scope:=mx fZ,pos:=⟨659,0,696,75⟩}
theorem defM:defOf qM (Str.ofString "law")=some (dM,[]):=by rfl'
theorem theDefM:pwM.theDef (Str.ofString "law")=some (dM.params,dM.body,dM.scope):=by rfl'
theorem okM1:chainsOk qM=true:=by rfl'
theorem okM2:opensWell pwM=true:=by rfl'
theorem okM3:frees rwM.row.toRowW=true:=by rfl'
theorem okM4:rwM.row.within.isEmpty=true:=by rfl'
theorem fi:rwM.row.toRowW.prog=pwM:=by rfl'
theorem oH:rwM.row.toRowW.name=Str.ofString "law":=by rfl'
theorem promM:rwM.row.toRowW.promised:=⟨[.list []],by rfl',by rfl'⟩
theorem kwM:kwWritten? dM.params.kwonlyargs dM.params.kw_defaults=some []:=by rfl'
theorem tabsM:pwM.tablesWhole=true:=by rfl'
theorem bareM:pwM.bare:=⟨by rfl',by rfl',by rfl',by rfl',by rfl',tabsM⟩
theorem okM:(chainsOk qM&&opensWell rwM.row.toRowW.prog&&(frees rwM.row.toRowW&&rwM.row.within.isEmpty))=true:=by
 rw[fi,okM1,okM2,okM3,okM4];rfl
theorem leftM':LeftO rwM.row.toRowW.prog qM bx (λ_=>true) (λs=>s.heap) (λw=>HF w.params) 6000:=by rw[fi];exact leftM
theorem defM':defOf qM rwM.row.toRowW.name=some (dM,[]):=by rw[oH];exact defM
theorem theDefM':rwM.row.toRowW.prog.theDef rwM.row.toRowW.name=some (dM.params,dM.body,dM.scope):=by rw[fi,oH];exact theDefM
theorem bareM':rwM.row.toRowW.prog.bare:=by rw[fi];exact bareM
theorem recM:∀s:Shared,(λ_=>true:Shared->Bool) s=true->RecFacts rwM.row.toRowW.records s.heap:=λs _=>recFacts_of (R:=[]) (s:=s) rfl
theorem wrM:(!rwM.row.writes||rwM.row.toRowW.records.isEmpty)=true:=by rfl'
section
open PySem.Calls
theorem gw_lw{α:Type}{M:Model}{A:Around}{E:Value->Shared->Prop}{s:Shared}{t:Sem α}{Q:α->Shared->Prop}(h:PySem.wpAny M A t Q E s):Mine.wpAny M A t Q E s:=λΓ p a _ _=>h Γ p a
theorem gw_pure{α:Type}{M:Model}{A:Around}{E:Value->Shared->Prop}{s:Shared}{a:α}{Q:α->Shared->Prop}(h:Q a s):Mine.wpAny M A (pure a) Q E s:=gw_lw (qB h)
theorem oZ{α:Type}{M:Model}{A:Around}{E E':Value->Shared->Prop}{s:Shared}{t:Sem α}{Q Q':α->Shared->Prop}(h:Mine.wpAny M A t Q E s)(q:∀a s,Q a s->Q' a s)(e:∀v s,E v s->E' v s):Mine.wpAny M A t Q' E' s :=
 λΓ p a b d=>Sem.wp_mono M Γ t (λx _ s=>q x s) (λx _ s=>e x s) p s (h Γ p a b d)
theorem o_{α β:Type}{M:Model}{A:Around}{E:Value->Shared->Prop}{s:Shared}{m:Sem α}{f:α->Sem β}{Q:β->Shared->Prop}(h:Mine.wpAny M A m (λa s'=>Mine.wpAny M A (f a) Q E s') E s):Mine.wpAny M A (m>>=f) Q E s:=λΓ p a b d=>by
 rw[Sem.wp_bind'];exact Sem.wp_mono M Γ m (λx p' s' z=>z Γ p' a b d) (λ_ _ _ z=>z) p s (h Γ p a b d)
theorem qg{prog:Program}{w:World}{t:Sem Fin}{s:Shared}{R:Result->Shared->Prop}(hz:s.asleep)
  (h:wpAny (model prog w) callerA t (λfin s'=>∃f,fin=.done f/\(R (.ok f) s'/\leftWithCleanup s'.gens=false)) (λe s'=>R (.error e) s'/\leftWithCleanup s'.gens=false) s) :
  ∃n r s' s'',runN (denote table) prog w n s ⟨t,.builtin "claim.caller" {},default,[]⟩=.halted (outcomeOf r) s' /\
   schedN (denote table) prog w n (.single s ⟨t,.builtin "claim.caller" {},default,[]⟩)=.halted (outcomeOf r) s'/\s'.forget=s''.forget/\R r s'':=by
 have z:Sem.wp (model prog w) ⟨.builtin "claim.caller" {},none,none,[],none⟩ t (Sem.finPost (model prog w) ⟨.builtin "claim.caller" {},none,none,[],none⟩ λr s'=>R r s'/\leftWithCleanup s'.gens=false) (λe _ s'=>R (.error e) s'/\leftWithCleanup s'.gens=false) default s:=by
  refine Sem.wp_mono _ _ t (λfin p' s' y=>?_) (λ_ _ _ y=>y) _ s (h _ default caller_in (by decide) λ_ m=>by cases m);refine nn λno=>?_;obtain⟨f,rfl,y⟩:=y;refine no ?_;exact y
 refine nn λno=>?_;obtain⟨n,r,rj,ry,a,b,d,e⟩:=wp_halts_full (M:=model prog w) (R:=R) hz z;refine no ?_;exact⟨n,r,ry,rj,b,a,d,e⟩
theorem ex4{α β γ δ:Type}{p:α->β->γ->δ->Prop}{g:Prop}(h:∃a b c d,p a b c d)(f:∀a b c d,p a b c d->g):g:=let⟨a,b,c,d,h⟩:=h;f a b c d h
theorem callFrom{c:ClaimW}{tree:List Value->Sem Fin}{w:World}{s:Shared}{free:Addr->Prop}{gens:Prop}{kept:Heap->Prop}(hz:s.asleep)(hg:s.gens=#[])
  (spec:∀args,c.pre args=true->WData.layableAll args=true->∀ord:List DictEntry->List DictEntry,(∀l,(ord l).Perm l) ->
   ∃vs rj,layAllW c.records (classAt s.heap) w.params ord args s=some (vs,rj) /\
    wpAny (model c.prog w) callerA (tree vs) (λfin s'=>∃f,fin=.done f/\(c.Ends s args vs rj (.ok f) s'/\s'.os=s.os/\AllBare s'.gens/\kept s'.heap))
     (λe s'=>c.Ends s args vs rj (.error e) s'/\s'.os=s.os/\AllBare s'.gens/\kept s'.heap) rj):c.CallFrom (λvs=>⟨tree vs,.builtin "claim.caller" {},default,[]⟩) w free gens kept s:=by
 intro args hpre hlay ord hord;refine(spec args hpre hlay ord hord).imp λvs=>Exists.imp λrj h=>⟨h.1,?_⟩;have al:=layAllW_rest _ _ _ h.1;refine ex4 (qg (R:=λr s'=>c.Ends s args vs rj r s'/\s'.os=s.os/\kept s'.heap) (Shared.asleep_of_life al.2.2.2 hz)
  (oZ h.2 (λfin s'=>Exists.imp λf h=>⟨h.1,⟨h.2.1,h.2.2.1,h.2.2.2.2⟩,leftWithCleanup_false_of_bare h.2.2.2.1⟩) λe s' h=>⟨⟨h.1,h.2.1,h.2.2.2⟩,leftWithCleanup_false_of_bare h.2.2.1⟩)) λk r s' s'' z=>?_
 have fo:=Shared.forget_eq z.2.2.1;exact⟨k,_,s',z.2.1,(z.2.2.2.1.congr fo.1).imp
  (Exists.imp λv h=>⟨qF outcomeOf h.1,h.2.1,h.2.2.1,h.2.2.2.1,λb o y _=>h.2.2.2.2.1 b o y,h.2.2.2.2.2⟩)
  (Exists.imp λe=>Exists.imp λob=>Exists.imp λcls h=>⟨qF outcomeOf h.1,h.2.1,h.2.2.1,h.2.2.2.1,h.2.2.2.2.1,λb o y _=>h.2.2.2.2.2 b o y⟩),(λ_ i x hx=>by rw[hg] at hx;simp at hx),fo.1▸z.2.2.2.2.2,qF Life.seen ((runN_life _ _ _ z.1).trans al.2.2.2),Shared.rest_eq (fo.2.2.2.1.trans z.2.2.2.2.1)⟩
def WalkC:Prop:=∀(w:World) (rU rj:Shared) (mg mb:Str->Option Value),Ground qM bx rwM.row.toRowW.records (λ_ _=>True) w rU mg mb rj.heap->rU.heap=HF w.params->∀(a:Addr) (o:Obj) (pm cd doc dV kV:Value),rj.heap.get? a=some o ->
  o.data=.func {docDef dM.name dM.params dM.body dM.scope pm cd doc with defaults:=dV,kwdefaults:=kV}->rj.heap.CodeRec cd dM.name->Dflts mg rj.heap dM.params [] dV kV->mg dM.name=some (.ref a)->rj.gens=#[] ->
  ∀(args:List WData) (vals:List Value) (as:List Addr),Laid rwM.row.toRowW.records w rU rj args vals as->rwM.row.toRowW.claim.pre args=true->WData.layableAll args=true->ReadsAllW rwM.row.toRowW.records (classAt rU.heap) rj.heap vals args as->WellAll w.params rj.heap vals args->(∀a∈as,(a==sysModules)=false) ->
   wpAny (model rwM.row.toRowW.prog w) callerA (PySem.call (.ref a) vals) (λv s'=>GoodWG rwM.row.toRowW.claim (classAt rU.heap) (ExcName.means rU.heap) args rj (.ok (.ret v)) s')
    (λe s'=>GoodWG rwM.row.toRowW.claim (classAt rU.heap) (ExcName.means rU.heap) args rj (.error e) s') rj
end
section
open PySem.Calls
theorem noMakers{r:RowW}(h:r.makers=[]):r.claim.makers=[]:=by show r.makers.map _=[];rw[h];rfl
theorem pS(call:WalkC):rwM.row.Holds:=by
 have hw:=promM;refine nn λno=>?_;obtain⟨ok,k5⟩:=Bool.and_eq_true_iff.mp okM;obtain⟨hch,o1⟩:=Bool.and_eq_true_iff.mp ok;obtain⟨k5,k6⟩:=Bool.and_eq_true_iff.mp k5;obtain⟨hsame,hu,ha,hap,hm⟩:=frees_parts k5;refine no ?_;have left:=leftM';refine⟨og,hw,⟨⟨bareM',o1,noMakers hm⟩,hw.witness,λw=>⟨(left.behind (XP:=λ_ _=>True) (λ_ _=>trivial) hch w).1,λs' hs'=>?_⟩⟩⟩;refine nn λno=>?_;obtain⟨rU,hf,hg0,s,hT,hz,hgens,hg,G00,y⟩:=(left.behind (XP:=λ_ h=>True/\RecFacts rwM.row.toRowW.records h) (λs hs=>⟨trivial,recM s hs⟩) hch w).2 s' hs';refine no ?_;have G0:Ground qM bx [] (λ_ _=>True) w s (s.heap.nsMap mainGlobals) (s.heap.nsMap builtinsNs) s.heap:=⟨G00.T,G00.B,G00.D,G00.TE,G00.TD,G00.W,G00.X.1,G00.cls,G00.has,G00.apart,G00.once,G00.K⟩;have RF:=G00.X.2;have hT':=hT;refine⟨rU,hf,hg0,s,hT,(λn hn=>?_),RF.1,RF.2.1,?_⟩
 .refine nn λno=>?_;obtain rfl:n=rwM.row.toRowW.name:=by split at hn<;>simp_all
  refine no ?_;exact pinned_of_view hg G0 defM' theDefM' kwM
 have hgens:s.gens=#[]:=Array.eq_empty_of_size_eq_zero (beq_iff_eq.mp hgens);have G:Ground qM bx rwM.row.toRowW.records (λ_ _=>True) w s _ _ s.heap:=RF.ground G0;refine callFrom (c:=rwM.row.toRowW.claim) hz hgens λargs hpre hlay ord hord=>?_;refine nn λno=>?_;obtain⟨⟨vs,rj⟩,hlaid⟩:=Option.isSome_iff_exists.mp (layAllW_isSome (P:=w.params) (ord:=ord) G.has args rwM.row.toRowW.args s (pre_splitW hpre).1);have keeps:=layAllW_keeps _ _ _ hlaid;have hal:=layAllW_rest _ _ _ hlaid;obtain⟨as,hrd,hin,hold⟩:=reads_layAllW hord _ _ _ hlaid hlay rj.heap (λ_ _ e=>e);have L:Laid rwM.row.toRowW.records w s rj args vs as:=⟨⟨ord,hord,hlaid⟩,hrd,hin,hold,keeps,hal.1.trans hgens,hal.2.2.1⟩;have ta:=G.keeps (λ_ _ _ x _=>x) keeps;obtain⟨a,o,pm,cd,doc,dV,kV,h1,h2,h3,h4,h5⟩:=ta.fn defM';refine no ?_;have h:=call w s rj _ _ ta y a o pm cd doc dV kV h2 h3 h4 h5 (defOf_name defM'▸h1) L.gens args vs as L hpre hlay L.reads L.well (L.low G.low);have hi:=ident_freeW hu ha hap;have hwi:rwM.row.toRowW.claim.within=[]:=List.isEmpty_iff.mp k6;exact⟨vs,rj,hlaid,o_ (gw_lw (wpAny_nsGet ta.T.g (by rw[h1];exact o_ (oZ h (λv s' g=>gw_pure ⟨_,rfl,have z:=g.laid (c:=rwM.row.toRowW.claim) hsame hwi hi L;⟨z.1,z.2.1,z.2.2,λq=>⟨namesKept_of hT' hg _ keeps g.2.1.old,noTable wrM q⟩⟩⟩) λe s' g=>have z:=g.laid (c:=rwM.row.toRowW.claim) hsame hwi hi L;⟨z.1,z.2.1,z.2.2,λq=>⟨namesKept_of hT' hg _ keeps g.2.1.old,noTable wrM q⟩⟩))))⟩
theorem holdsC(call:WalkC):PySem.Challenge.rw_og0218_01.Holds:=by
 rw[rw_eq];exact holds_law lawSaid λ_=>pS call
end
theorem oY{R:WRecords}:∀{xs:List WData},WShape.hasItems R xs .int=true->∃is:List Int,xs=is.map .int
 | [],_=>⟨[],rfl⟩
 | x::xs,h=>by
  simp only[WShape.hasItems,Bool.and_eq_true] at h;obtain⟨i,rfl⟩:=hasW_int h.1;obtain⟨is,rfl⟩:=oY h.2;exact⟨i::is,rfl⟩
theorem pG{P:Params}{h:Heap}{is:List Int}:∀{vs:List Value},WellAll P h vs (is.map .int)->IntsAre vs is:=by
 induction is with
 | nil=>intro vs w;cases w;exact .nil
 | cons i is ih =>
  intro vs w;cases w with
  | cons a r=>cases a with
   | int _ t=>exact .cons i t (ih r)
theorem j_(args:List WData)(cls:ExcName):rwM.row.toRowW.claim.raises args cls=(([]:List (ExcName×WTm)).any λct=>ct.1==cls&&ct.2.holds [] {args:=args}):=by rfl'
theorem nh(args:List WData):rwM.row.toRowW.claim.post args (.bool true) args=true:=by rfl'
theorem law_ns(P:Params):∃o es ep,(HF P).get? 3=some o/\o.data=.dict es ep/\nsFind es "law"=some (.ref 734) :=
 ⟨o3 P m9 80 81,_,_,by rfl',rfl,by rfl'⟩
theorem low_res{X:WTm}{e:WCtx}{o:Option WData}(h:X.value [] e=o):(WTm.and (.not X) (.lit (.bool true))).holds [] e=(WTm.and (.not .res) (.lit (.bool true))).holds [] {args:=[],res:=o}:=h▸rfl
theorem walkC:WalkC:=by
 intro w rU rj mg mb G h0 a o pm cd doc dV kV ho hd hc hdf hmg hg args vals as L hpre hlay hrd hwell hsys;rw[fi];have keep:∀a o,(HF w.params).get? a=some o->rj.heap.get? a=some o:=λa o e=>L.keeps a o (by rw[h0];exact e);obtain⟨sh,ph⟩:=pre_splitW hpre;have eargs:rwM.row.toRowW.args=[.list .int]:=by rfl'
 have sh:=(eargs)▸sh;obtain⟨d,r,rfl,hd1,hr⟩:=hasAllW_cons sh;obtain⟨xs,rfl,hx⟩:=hasW_list hd1;have er:r=[]:=by cases r with
  | nil=>rfl
  | cons=>simp[WShape.hasAll] at hr
 subst er;obtain⟨is,rfl⟩:=oY hx;have hlen:is.length<=63:=by
  have e:rwM.row.toRowW.pre=.and (.not (.lt (.lit (.int 63)) (.len (.arg 0)))) (.lit (.bool true)):=by rfl'
  have ph:=(e)▸ph;by_cases q:is.length<=63
  .exact q
  .have z:(WTm.lt (.lit (.int 63)) (.len (.arg 0))).value [] {args:=[.list (is.map .int)]}=some (.bool (decide ((63:Int)<((is.map WData.int).length:Int)))):=rfl;rw[qG,decide_eq_true (by omega)] at z;exact absurd ((low_res z).symm.trans ph) (by decide)
 cases hwell with|cons w1 w2 =>
 cases w2;cases w1 with|list hb hw1 =>
 have ea:a=734:=by
  obtain⟨o,es,ep,f1,f2,f4⟩:=law_ns w.params;obtain⟨o',es',ep',g1,g2,_,g4⟩:=G.T.g;rw[show(mainGlobals:Nat)=3 from rfl,keep _ _ f1] at g1;cases g1;rw[f2] at g2;cases g2;have h:=g4 dM.name;rw[hmg,show nsFind es dM.name=some (.ref 734) from f4] at h;cases h;rfl
 subst ea;refine all_good law_good ⟨w,rj.heap,_,is,keep,⟨_,_,hb,pG hw1⟩,hlen⟩ rj _ _ rfl hg λs' hold hos hgens=>?_;exact⟨.inl ⟨.bool true,.bool true,[],rfl,(λcls=>by rw[j_];rfl),.bool _,(by rw[nh]),λ_=>⟨.nil,λ_ h=>(by cases h)⟩⟩,hold,hos,λy hy=>by rw[hgens] at hy;simp at hy⟩
theorem whole:PySem.Challenge.rw_og0218_01.Holds:=holdsC walkC
end Mine
theorem PySem.Challenge.cw_og0218_01_holds : PySem.Challenge.rw_og0218_01.Holds :=
 Mine.whole
