import PyProof.Rows.All
import PyProof.ZipIter
import PySem.SetOps
import Wide.All
import OpenK.AllK
import Wide.FinOn
import Lean
import PySem.Challenge.RW_sx_r026_3
set_option maxRecDepth 100000
set_option maxHeartbeats 8000000
set_option genSizeOfSpec false
set_option bootstrap.genMatcherCode false
set_option compiler.extract_closed false
set_option genSizeOf false
set_option linter.unusedVariables false
set_option linter.unusedSimpArgs false
set_option linter.constructorNameAsVariable false
set_option linter.unusedSectionVars false
set_option genInjectivity false
set_option genCtorIdx false
set_option backward.match.sparseCases false
set_option Elab.async false
noncomputable section
namespace Internal
def ao:=@Nat.le_trans
def ak:=@PySem.wpAny_bind
def aF:=@PySem.wpAny_pure
def dA:=@PySem.Heap.get?_push_of_some
def dB:=@Nat.le_of_ble_eq_true
def dC:=@List.mem_cons_self
def d7:=@Nat.add_le_add_right
def d8:=@List.mem_cons_of_mem
def eB:=@Nat.add_le_add_left
def dN:=@Bool.and_eq_true
def cO:=@List.length_append
def bD:=@Option.some.inj
def bR:=@List.length_map
def cv:=@Nat.succ_le_succ
def dH:=@List.mem_of_getElem?
def bX:=@List.mem_append
def cU:=@Nat.le_add_right
def d5:=@PySem.Heap.get?_push_size
def gi:=@List.getElem?_eq_some_iff
def gj:=@List.getElem?_eq_getElem
def bV:=@Nat.le_of_eq
def eQ:=@Nat.lt_of_le_of_lt
def eR:=@Nat.le_succ_of_le
def i0:=@List.getElem?_append_left
def cy:=@Nat.le_refl
def jG:=@List.getD_eq_getElem?_getD
def fW:=@List.mem_singleton
def gk:=@Nat.add_right_comm
def cj:=@PySem.wpAny_mono
def dI:=@Nat.ne_of_lt
def fX:=@List.all_eq_true
def eD:=@PySem.wpAny_holding
def dJ:=@Nat.zero_le
def e8:=@List.mem_cons
def mC:=@Array.getElem?_eq_some_iff
def iI:=@Nat.lt_of_lt_of_le
def eE:=@PySem.Heap.lt_size
def ot:=@List.getElem?_append_right
def lY:=@List.length_filter_le
def mD:=@Nat.le_of_succ_le_succ
def oy:=@Bool.and_eq_true_iff
def kx:=@List.mem_filterMap
def jH:=@Nat.le_max_right
def kz:=@of_decide_eq_true
def i6:=@Nat.le_max_left
def gH:=@PySem.wpAny_standAt
def kB:=@PySem.wpAny_truthy_bool
def gm:=@List.mem_map
def mE:=@Nat.mul_le_mul_left
def kC:=@List.length_drop
section
variable {K L M N R X a b c d e f h hi i j k l lo m n o p r s t u v w x y:Nat}{P:Prop}{α:Type}
theorem aj(h:a<=k)(q:Nat.ble k m=true):a<=m:=ao h (dB q)
theorem abi(h:a<=k)(q:Nat.ble (k+1) m=true):a<m:=ao (cv h) (dB q)
theorem FH(h:a<k)(q:Nat.ble k m=true):a<m:=ao h (dB q)
theorem d9(h:a<=k)(q:Nat.ble (k+c) m=true):a+c<=m:=ao (d7 h c) (dB q)
theorem eI(h:a<=k)(g:m<=n)(q:Nat.ble (k+c) m=true):a+c<=n:=ao (d7 h c) (ao (dB q) g)
theorem gn(g:m<=n+k)(q:Nat.ble (c+k) m=true):c<=n:=Nat.le_of_add_le_add_right (ao (dB q) g)
theorem gI(h:a<=k)(g:b<=l)(q:Nat.ble (k+l) m=true):a+b<=m:=ao (Nat.add_le_add h g) (dB q)
theorem cV(h:a<=c)(k:b<=c):max a b<=c:=Nat.max_le.mpr ⟨h,k⟩
theorem kD(h:max a b<=c):max a b+1<=c+1:=cv h
theorem rM(h:max a b<=c):a<=c:=ao (i6 a b) h
theorem pM(h:max a b<=c):b<=c:=ao (jH a b) h
theorem g9(h:max a b+1<=c):a<=c:=rM (Nat.le_of_succ_le h)
theorem fm(h:max a b+1<=c):b<=c:=pM (Nat.le_of_succ_le h)
theorem Si(h:max a b+1<=c)(q:Nat.ble c m=true):a<=m:=aj (g9 h) q
theorem Sj(h:max a b+1<=c)(q:Nat.ble c m=true):b<=m:=aj (fm h) q
theorem Sl(h:max a b<=c):a<=c+1:=eR (rM h)
theorem Sn(h:max a b<=c):b<=c+1:=eR (pM h)
theorem MK(h:a+1+c<=n+1):a+c<=n:=by rw[gk] at h;exact mD h
theorem oz(h:max a b+1+c<=n+1):a+c<=n:=ao (d7 (i6 a b) c) (MK h)
theorem gJ(h:max a b+1+c<=n+1):b+c<=n:=ao (d7 (jH a b) c) (MK h)
theorem So(h:max a b+1+d+c<=n+1):a+d+c<=n:=by rw[Nat.add_assoc] at *;exact oz h
theorem BX(h:max a b+1+d+c<=n+1):b+d+c<=n:=by rw[Nat.add_assoc] at *;exact gJ h
theorem BY(h:c+(max a b+1)<=k):c+a<=k:=ao (eB (eR (i6 a b)) c) h
theorem sZ(h:c+(max a b+1)<=k):c+b<=k:=ao (eB (eR (jH a b)) c) h
theorem BZ(h:c+(max a b+1)<=k):c+1+b<=k:=ao (by rw[Nat.add_assoc,Nat.add_comm 1 b];exact eB (cv (jH a b)) c) h
theorem MM(h:x<=a)(g:y<=b):max x y+1<=max a b+1:=cv (cV (ao h (i6 a b)) (ao g (jH a b)))
theorem MN(g:y<=b):max a y+1<=max a b+1:=MM (cy a) g
theorem vy(h:x<=a+d)(g:y<=b+d):max x y+1<=max a b+1+d:=ao (cv (cV (ao h (d7 (i6 a b) d)) (ao g (d7 (jH a b) d)))) (bV (gk _ d 1))
theorem B0(h:x<=a+d)(g:y<=b+d):max 0 (max x (max y 0))+1<=max a b+1+d:=by
 rw[Nat.zero_max,Nat.max_zero];exact vy h g
theorem Sq(h:x<=a+d)(g:y<=b+(d+1)):max 0 (max x (max y 0))+1<=max a b+1+(d+1):=B0 (eR h) g
theorem abj(h:x<=m+a)(g:y<=m+b):max x y<=m+(max a b+1):=cV (ao h (eB (eR (i6 a b)) m)) (ao g (eB (eR (jH a b)) m))
theorem AG(h:k+1<=n):n=n - 1+1:=(Nat.sub_add_cancel (ao (Nat.le_add_left 1 k) h)).symm
theorem Sr(h:a<=k)(q:Nat.ble (k+c+1) m=true):a+c<m:=ao (cv (d7 h c)) (dB q)
theorem abk:M<k+(M+1 - k):=by rw[Nat.add_comm];exact Nat.le_add_of_sub_le (cy _)
theorem Ss(h:b+d+6<=n):b+3<=n:=ao (Nat.add_le_add (cU b d) (dB rfl)) h
theorem abl(h:x<=m+1+b):x<=m+(max t b+1):=ao h (by rw[Nat.add_assoc,Nat.add_comm 1 b];exact eB (cv (jH t b)) m)
theorem FI(h:x<=o+f)(g:y<=x+a):y<=o+(f+a):=ao g (by rw[←Nat.add_assoc];exact d7 h a)
theorem MO(h:o+(f+a)<=k)(g:x<=o+f):x+a<=k:=ao (FI g (cy _)) h
theorem FJ(h:o+c * (r+1)<=k)(g:v<=c):o+v+c * r<=k:=ao (by rw[Nat.mul_succ,Nat.add_assoc,Nat.add_comm v];exact eB (eB g _) o) h
theorem Su(h:o+c * (r+1)<=k)(g:x<=o+v)(i:v<=c):x+c * r<=k:=ao (d7 g _) (FJ h i)
theorem MP(h:o+c * (r+1)<=k)(g:v<=c)(q:Nat.ble k m=true):o+v<=m:=aj (ao (cU _ _) (FJ h g)) q
theorem gK(g:m<=n)(q:Nat.ble c m=true):c<=n:=ao (dB q) g
theorem fK(a:x<=h+c)(b:h<=k)(q:Nat.ble (k+c) m=true):x<=m:=ao a (d9 b q)
theorem abm(a:x<=h+c)(b:h<=k)(q:Nat.ble (k+c+d) m=true):x+d<=m:=ao (d7 (ao a (d7 b c)) d) (dB q)
theorem Sv(a:x<=h+c)(b:h<=k)(g:m<=n)(q:Nat.ble (k+c+d) m=true):x+d<=n:=ao (d7 (ao a (d7 b c)) d) (gK g q)
theorem kE(h:a+c<=n+1)(q:Nat.ble (d+1) c=true):a+d<=n:=mD (ao (eB (dB q) a) h)
theorem Sw(h:m+a<=800):m+1 - k<900:=eQ (Nat.sub_le _ _) (Sr (ao (cU _ _) h) rfl)
theorem Sx(h:max k b<=m)(g:m+a<=800):k+900<=2000:=d9 (ao (rM h) (ao (cU _ _) g)) rfl
theorem Sy(g:max a b+1<=f):b<=max f x+1:=eR (ao (fm g) (i6 _ _))
theorem Sz(h:i<=p)(g:p+(max t b+1)<=k):i+1+b<=k:=ao (d7 (d7 h 1) b) (BZ g)
theorem SA(h:i<=p)(g:p+(max t b+1)<=k):i+b<=k:=ao (d7 h b) (sZ g)
theorem SD(g:p+(max t b+1)<=k)(q:Nat.ble k m=true):b<=m:=aj (ao (Nat.le_add_left _ _) (sZ g)) q
theorem O3(h:max (max a b+1) c+1<=k):b<=k:=fm (g9 h)
theorem MQ(g:y<=b+d):max a y+1<=max a b+1+d:=vy (cU _ _) g
theorem SF(h:max a b+1+d+6<=n+1):b+3<=n:=Ss (BX h)
theorem MR(h:x<=a+c):x<=max a b+c:=ao h (d7 (i6 _ _) _)
theorem MS(h:x<=b+c):x<=max a b+c:=ao h (d7 (jH _ _) _)
theorem dk:0<=a:=dJ a
theorem MT:(a:Int)=b↔a=b:=Int.ofNat_inj
theorem eF(h:a+c<=k)(q:Nat.ble k m=true):a<=m:=aj (ao (cU _ _) h) q
theorem SH(h:c+a<=k)(q:Nat.ble k m=true):a<=m:=aj (ao (Nat.le_add_left _ _) h) q
theorem B1(h:a+c<e)(q:Nat.ble d c=true):a+d<e:=eQ (eB (dB q) a) h
theorem MU(h:a+c<e):a<e:=eQ (cU _ _) h
theorem FK(h:a=b)(g:b<=m):a<=m:=h▸g
theorem s6(h:a=b)(g:b<=k)(q:Nat.ble k m=true):a<=m:=h▸aj g q
theorem FR(h:a=b)(g:b=c)(l:c<=k)(q:Nat.ble k m=true):a<=m:=h▸s6 g l q
theorem abn(h:a=b)(g:b<=k)(l:k<=m):a<=m:=h▸ao g l
theorem dK(q:(Nat.blt i j || Nat.blt j i)=true):n+i<n+j\/n+j<n+i:=(Bool.or_eq_true_iff.mp q).imp (λ h=>Nat.add_lt_add_left (Nat.blt_eq.mp h) n) (λ h=>Nat.add_lt_add_left (Nat.blt_eq.mp h) n)
theorem pN(q:Nat.blt 0 j=true):n<n+j\/n+j<n:=.inl (Nat.lt_add_of_pos_right (Nat.blt_eq.mp q))
theorem vz(q:Nat.blt 0 j=true):n+j<n\/n<n+j:=.inr (Nat.lt_add_of_pos_right (Nat.blt_eq.mp q))
theorem rN(h:l<n):l<n+k\/n+k<l:=.inl (Nat.lt_add_right k h)
theorem MV(h:l<n):l<n\/n<l:=.inl h
theorem rO(hc:¬(n<=c/\c<=n+m))(q:Nat.ble k m=true):c<n+k\/n+k<c:=(Nat.lt_or_ge c (n+k)).imp_right λ p=>Nat.lt_of_le_of_ne p λ e=>hc ⟨ao (cU n k) p,ao (bV e.symm) (eB (dB q) n)⟩
theorem MW(hc:¬(n<=c/\c<=n+m)):c<n\/n<c:=rO (k:=0) hc rfl
theorem s7(h:a<b):(a:Int)<(b:Int):=Int.ofNat_lt.mpr h
theorem B2(h:¬a<b):¬(a:Int)<(b:Int):=λ q=>h (Int.ofNat_lt.mp q)
theorem yq(v:a<=0)(h:x+c<=m):max a x+1+c<=m+5:=by
 rw[Nat.max_eq_right (ao v (dJ x)),gk];exact Nat.add_le_add h (dB rfl)
theorem MX(h:max a b+1+(k+1)<=n+1+1):a+k<=n:=ao (d7 (i6 a b) k) (mD (ao (bV (gk (max a b) k 1)) (mD h)))
theorem MY(h:a * 5<m * 3):a<=m:=Nat.le_of_lt (Nat.lt_of_mul_lt_mul_right (iI h (mE m (dB (rfl:Nat.ble 3 5=true)))))
theorem SI(he:e<18)(h:m=7\/m=31)(g:e * 5<m * 3)(f:m * 3<=(e+1) * 5):m=7/\e+1=5:=by
 rcases h with rfl|rfl
 exact⟨rfl,(by decide:∀e,e<18->e * 5<21->21<=(e+1) * 5->e+1=5) e he g f⟩;exact absurd f ((by decide:∀e,e<18->¬93<=(e+1) * 5) e he)
theorem SJ(h:u+30<L)(g:d<=8):u+1+d+1<L:=eQ (ao (d7 (eB g (u+1)) 1) (eB (dB (rfl:Nat.ble 10 30=true)) u)) h
theorem SK:min (a:Int) (b:Int)=((min a b:Nat):Int):=(Nat.le_total a b).elim (λ h=>by rw[Nat.min_eq_left h,Int.min_eq_left (Int.ofNat_le.mpr h)]) (λ h=>by rw[Nat.min_eq_right h,Int.min_eq_right (Int.ofNat_le.mpr h)])
theorem SM(h1:x<=v+500 * h)(h2:v<=o+w)(h3:w<=500):x<=o+500 * (h+1):=ao h1 (ao (d7 (ao h2 (eB h3 o)) _) (bV (by rw[Nat.mul_succ,Nat.add_assoc,Nat.add_comm 500])))
theorem mF:n<n+1:=Nat.lt_succ_self n
theorem kF:n<=n+k:=cU n k
theorem lZ(q:Nat.ble k m=true):k<=m:=dB q
theorem jI(h:¬a<b):b<=a:=Nat.le_of_not_lt h
theorem SP(h:¬a<=b):b<a:=Nat.lt_of_not_le h
theorem B3(h:a<b+1)(g:¬a=b):a<b:=Nat.lt_of_le_of_ne (Nat.le_of_lt_succ h) g
theorem s8(h:a<=b)(g:b<=c):a<=c:=ao h g
theorem MZ(h:a<b)(g:b<=c):a<c:=iI h g
theorem M0(h:a<=b)(g:b<c):a<c:=eQ h g
theorem SQ(h:a<b)(g:b<c):a<c:=Nat.lt_trans h g
theorem M1(h:a+1<=b+1):a<=b:=mD h
theorem M3:k+1+j=k+(j+1):=gk k 1 j
theorem M4:k+(j+1)=k+1+j:=(gk k 1 j).symm
theorem mG(h:a+(b+1)<=k):a+1+b<=k:=(gk a 1 b).symm▸h
theorem yr(h:a+(b+1)<=k):a+b<=k:=Nat.le_of_succ_le h
theorem M5(h:a+(b+c)<=k):a+b<=k:=ao (eB (cU b c) a) h
theorem yt(h:a<=k/\P)(q:Nat.ble k m=true):a<=m:=aj h.1 q
theorem M6(h:P/\a<=k)(q:Nat.ble k m=true):a<=m:=aj h.2 q
theorem M7(h:a<=k/\P)(g:m<=n)(q:Nat.ble (k+c) m=true):a+c<=n:=eI h.1 g q
theorem SR(h:P/\a<=k)(g:m<=n)(q:Nat.ble (k+c) m=true):a+c<=n:=eI h.2 g q
theorem abo(h:a<=k/\c<=k)(g:b<=k/\d<=k)(q:Nat.ble (k+k) m=true):a+b<=m:=gI h.1 g.1 q
theorem abp(h:c<=k/\a<=k)(g:d<=k/\b<=k)(q:Nat.ble (k+k) m=true):a+b<=m:=gI h.2 g.2 q
theorem yu(h:a<=k)(g:m<=n)(q:Nat.ble (k+c) (m+d)=true):a+c<=n+d:=ao (d9 h q) (d7 g d)
theorem M8(h:a<=k)(g:m<=n)(q:Nat.ble (k+c+e) (m+d)=true):a+c+e<=n+d:=ao (ao (d7 (d7 h c) e) (dB q)) (d7 g d)
theorem M9(h:a+c<=n)(q:Nat.ble d c=true):a+d<=n:=ao (eB (dB q) a) h
theorem FU{i k:Int}(h:0<=i)(q:decide (k<=0)=true):k<=i:=Int.le_trans (kz q) h
theorem FV{i a b:Int}(h:i<=a)(q:decide (a<b)=true):i<b:=Int.lt_of_le_of_lt h (kz q)
theorem FW{i a b:Int}(h:i<a)(q:decide (a<=b)=true):i<b:=Int.lt_of_lt_of_le h (kz q)
theorem Na{i a b:Int}(h:a<=i)(q:decide (b<=a)=true):b<=i:=Int.le_trans (kz q) h
theorem abq{a b:Int}(q:decide (a<=b)=true):a<=b:=kz q
theorem abr:a<=max a b+1:=eR (i6 a b)
theorem abt:b<=max a b+1:=eR (jH a b)
theorem SU(a:lo<=m)(h:hi - lo<=f+1):hi - (m+1)<=f:=Nat.sub_le_of_le_add (ao (Nat.le_add_of_sub_le h) (by rw[gk];exact eB (cv a) f))
theorem SV(b:m<hi)(h:hi - lo<=f+1):m - lo<=f:=Nat.sub_le_of_le_add (Nat.le_of_lt_succ (iI b (ao (Nat.le_add_of_sub_le h) (bV (gk f 1 lo)))))
theorem Nb(h:k<K)(g:K - k<f+1):K - (k+1)<f:=iI (Nat.sub_lt_sub_left h (Nat.lt_succ_self k)) (Nat.le_of_lt_succ g)
theorem SW(h:j<K)(g:k<=j)(l:K - k<f+1):K - (j+1)<f:=Nb h (eQ (Nat.sub_le_sub_left g K) l)
theorem FX(h:k<=K)(g:¬k=K):k<K:=Nat.lt_of_le_of_ne h g
theorem SX(h:k<=K)(g:¬k=K):k+1<=K:=Nat.lt_of_le_of_ne h g
theorem FY(h:k<=K)(g:¬K=k):k+1<=K:=Nat.lt_of_le_of_ne h λ e=>g e.symm
theorem SY(h:k<=K)(g:¬k=K)(l:K - k<f+1):K - (k+1)<f:=Nb (FX h g) l
theorem FZ(h:c=a)(g:c=b):a=b:=h.symm.trans g
theorem S4(h:K<N):K - k<N:=eQ (Nat.sub_le ..) h
theorem S5(h:a+max x y+k<c):a+x+k<c:=eQ (d7 (eB (i6 x y) a) k) h
theorem S6(h:a+max x y+k<c):a+y+k<c:=eQ (d7 (eB (jH x y) a) k) h
theorem pO(h:a<=k)(q:Nat.ble (c * k) m=true):c * a<=m:=aj (mE c h) q
theorem S7(h:a<=k)(q:Nat.ble (c * k+d) m=true):c * a+d<=m:=d9 (mE c h) q
theorem rP(h:a<=k)(q:Nat.ble (b+c * k) m=true):b+c * a<=m:=aj (eB (mE c h) b) q
theorem S8(h:a<=k)(q:Nat.ble (b+c * k+d) m=true):b+c * a+d<=m:=d9 (eB (mE c h) b) q
theorem F0(q:Nat.ble d b=true):a+b * L+d<=a+b * (L+1):=by rw[Nat.mul_succ,←Nat.add_assoc];exact eB (dB q) _
theorem Nc:a+b * L<=a+b * (L+1):=eB (mE b (Nat.le_succ L)) a
theorem S9(h:L<=M):a+b * L<=a+b * M:=eB (mE b h) a
theorem Ta(h:x<=y):c * x<=c * y:=mE c h
theorem B4:c * 2 ^ L+c * 2 ^ L<=c * 2 ^ (L+1):=bV (by rw[Nat.pow_succ,←Nat.mul_assoc,Nat.mul_two])
theorem Tc:c * 2 ^ L<=c * 2 ^ (L+1):=ao (cU ..) B4
theorem B5(h:a<=2 ^ L)(g:b<=2 ^ L):a+b<=2 ^ (L+1):=ao (Nat.add_le_add h g) (bV (Nat.mul_two _).symm)
theorem Td{p q:α->Bool}{l r:List α}(h:l.length<=2 ^ L)(g:r.length<=2 ^ L):(l.filter p).length+(r.filter q).length<=2 ^ (L+1):=B5 (ao (lY ..) h) (ao (lY ..) g)
theorem Te{p q:α->Bool}{l r:List α}(h:l.length<=k)(g:r.length<=j)(e:Nat.ble (k+j) m=true):(l.filter p).length+(r.filter q).length<=m:=gI (ao (lY ..) h) (ao (lY ..) g) e
theorem B6(g:c<=b+1)(h:b<=a+1)(l:a<=k)(q:Nat.ble (k+1+1) m=true):c<=m:=ao g (d9 (ao h (cv l)) q)
theorem B7(f:d<=c+1)(g:c<=b+1)(h:b<=a+1)(l:a<=k)(q:Nat.ble (k+1+1+1) m=true):d<=m:=ao f (d9 (ao g (cv (ao h (cv l)))) q)
theorem Tf(h:p<=l):min p l=p:=Nat.min_eq_left h
theorem Ti(h:i<p)(g:p<=l):i<min p l:=Nat.lt_min.mpr ⟨h,iI h g⟩
theorem O4(h:¬i<p):min p l<=i:=ao (Nat.min_le_left ..) (Nat.le_of_not_lt h)
theorem Nd(h:¬i<p)(g:¬i=p):i - p=i - p - 1+1:=(Nat.succ_pred_eq_of_pos (Nat.sub_pos_of_lt (Nat.lt_of_le_of_ne (Nat.le_of_not_lt h) λ e=>g e.symm))).symm
theorem Nf(h:i - p=m+1):p+(m+1)=i:=h▸Nat.add_sub_cancel' (Nat.le_of_lt (Nat.lt_of_sub_eq_succ h))
theorem To(h:i - p=m+1):p+m=i - 1:=by rw[←Nf h];rfl
theorem Tq(h:i - p=m+1):p+1+m=i:=(gk p 1 m).trans (Nf (p:=p) (m:=m) h)
theorem F2(h:m+1<=R):m<=R:=Nat.le_of_succ_le h
theorem Tr(h:m+1<=R):R - m > 0:=Nat.sub_pos_of_lt h
theorem Ng(h:m+1<=R):m<R:=h
theorem Nh(h:m+1<R+1):m<R:=Nat.lt_of_succ_lt_succ h
theorem Ts(h:j+1<=n)(g:n<=k)(q:Nat.ble k m=true):j<m:=ao h (aj g q)
theorem Tu:i+m+1=i+(m+1):=rfl
theorem Tv:X - m - 1=X - (m+1):=rfl
theorem s9(h:K<s+R+1):K - s<=R:=Nat.sub_le_of_le_add (ao (Nat.le_of_lt_succ h) (bV (Nat.add_comm s R)))
theorem F3(h:s<=K):s+(K - s)=K:=Nat.add_sub_cancel' h
theorem Ni(h:k<K - s)(g:K<s+R+1):k<=R:=ao (Nat.le_of_lt h) (s9 g)
theorem Tw(h:k<K - s):s+k<K:=by rw[Nat.add_comm];exact Nat.add_lt_of_lt_sub h
theorem Tx(h:n - i=0)(g:i<=n):i=n:=Nat.le_antisymm g (Nat.le_of_sub_eq_zero h)
theorem Tz(h:n - i=k+1):i<n:=Nat.lt_of_sub_eq_succ h
theorem Nj(h:x=n)(g:¬i<n):x<=i:=h▸Nat.le_of_not_lt g
theorem TA(h:¬i<n)(g:¬j<n)(e:i - n=j - n):i=j:=by rw[←Nat.sub_add_cancel (Nat.le_of_not_lt h),e,Nat.sub_add_cancel (Nat.le_of_not_lt g)]
theorem TB(a:i<n)(b:j<n)(h:n - 1 - i=n - 1 - j):i=j:=by rw[←Nat.sub_sub_self (Nat.le_sub_one_of_lt a),h,Nat.sub_sub_self (Nat.le_sub_one_of_lt b)]
end
section
variable {i j m:Int}{k n:Nat}{P a b c d:Prop}
theorem Nk(h:¬i<0)(g:¬(n:Int)<=i):i.toNat<n:=(Int.toNat_lt (Int.not_lt.mp h)).mpr (Int.not_le.mp g)
theorem Nm(h:¬i<0):0<=i:=Int.not_lt.mp h
theorem Nn(g:¬(n:Int)<=i)(l:n<=k)(q:decide ((k:Int)<=m)=true):i<m:=Int.lt_of_lt_of_le (Int.not_le.mp g) (Int.le_trans (Int.ofNat_le.mpr l) (kz q))
theorem TC(h:¬(a\/b\/c\/d)):¬a:=λ x=>h (.inl x)
theorem TF(h:¬(a\/b\/c\/d)):¬b:=λ x=>h (.inr (.inl x))
theorem TH(h:¬(a\/b\/c\/d)):¬c:=λ x=>h (.inr (.inr (.inl x)))
theorem TJ(h:¬(a\/b\/c\/d)):¬d:=λ x=>h (.inr (.inr (.inr x)))
theorem TK(h:a\/b\/c\/d)(g:¬(a\/c)):b\/d:=h.elim (λ x=>absurd (.inl x) g) λ h=>h.elim .inl λ h=>h.elim (λ x=>absurd (.inr x) g) .inr
theorem TL(h:¬a)(g:¬b):¬(a\/b):=λ x=>x.elim h g
theorem Np(h:0<=i/\P):¬i<0:=Int.not_lt.mpr h.1
theorem Nq(h:P/\i<j):¬j<=i:=Int.not_le.mpr h.2
theorem TM(h:¬0<=i\/¬i<j):i<0\/j<=i:=h.imp Int.not_le.mp Int.not_lt.mp
end
section
variable {D a b c d k m n p r s t x y z:Nat}{P:Prop}
theorem TN(h:a+(n+1)<c):a+1+n<c:=(gk a 1 n).symm▸h
theorem TP(h:a+3 * (n+1)+k<c):a+3+3 * n+k<c:=(gk a 3 (3 * n)).symm▸h
theorem TQ(h:a+(d+1)+1<c):a+1+d+1<c:=(gk a 1 d).symm▸h
theorem F4(h:x<=b * c)(g:c<=k)(q:Nat.ble (b * k) m=true):x<=m:=ao h (pO g q)
theorem rQ(h:x<=y)(g:y<=k)(q:Nat.ble k m=true):x<=m:=ao h (aj g q)
theorem TS(h:x<=y)(f:y<=z)(g:z<=k)(q:Nat.ble k m=true):x<=m:=ao h (rQ f g q)
theorem Nr(h:x<=b * c):x<=b * (c+1):=ao h (cU (b * c) b)
theorem Nt(h:x+y<=b * c)(q:Nat.ble 2 b=true):x+1+(y+1)<=b * (c+1):=by rw[Nat.add_add_add_comm];exact Nat.add_le_add h (dB q)
theorem TU(h:a+b * (r+1)<=m):a+b * r<=m:=ao Nc h
theorem TV(h:s<=D/\P)(g:D+c<=n):s+c<=n:=ao (d7 h.1 c) g
theorem TX(h:p<=D)(g:t+D+8<=n+1):p+2<=n:=ao (d7 h 2) (mD (ao (ao (eB (dB (n:=3) (m:=8) rfl) D) (d7 (Nat.le_add_left D t) 8)) g))
theorem F5(q:Nat.blt 0 k=true):n<n+k:=Nat.lt_add_of_pos_right (Nat.blt_eq.mp q)
theorem TY(a:m+1<=k)(b:k<=m):P:=absurd (ao a b) (Nat.not_succ_le_self m)
theorem B8(b:x<y)(a:y<=x):P:=absurd (iI b a) (Nat.lt_irrefl _)
theorem rR(h:a<0):P:=absurd h (Nat.not_lt_zero _)
end
end Internal
@[elab_as_elim] theorem cq {α:Type _} {M:Option α->Prop} (o:Option α) (h1:o=none->M none) (h2:∀x,o=some x->M (some x)):M o:=by
 cases o with
 |none=>exact h1 rfl
 |some x=>exact h2 x rfl
@[elab_as_elim] theorem mH {M:Bool->Prop} (o:Bool) (h1:o=true->M true) (h2:o=false->M false):M o:=by
 cases o with
 |false=>exact h2 rfl
 |true=>exact h1 rfl
@[elab_as_elim] theorem bO {α:Sort _} {a b:α} {P:α->Prop} (h:a=b) (k:P b):P a:=h▸k
@[elab_as_elim] theorem Nu {α:Sort _} {a b:α} {P:α->Prop} (h:b=a) (k:P b):P a:=h▸k
section
variable {α nY wM RN:Sort _}{P p1 p2 p3 p4 p5 p6 p7:Prop}
theorem qP{d:α}{P:α->Prop}(h:P d):∀a,a=d->P a:=λ _ e=>e▸h
theorem neN{α β:Type _}{f:α->Option β}{a b:α}{o:β}(q:f a=some o)(c:f b=none):a≠b:=λ e=>nomatch (e▸q).symm.trans c
theorem dd(h:p1/\p2)(f:p1->p2->P):P:=f (h).1 ((h).2)
theorem tc(h:p1/\p2/\p3)(f:p1->p2->p3->P):P:=f (h).1 ((h).2).1 (((h).2).2)
theorem oM(h:p1/\p2/\p3/\p4)(f:p1->p2->p3->p4->P):P:=f (h).1 ((h).2).1 (((h).2).2).1 ((((h).2).2).2)
theorem DH(h:p1/\p2/\p3/\p4/\p5/\p6/\p7)(f:p1->p2->p3->p4->p5->p6->p7->P):P:=f (h).1 ((h).2).1 (((h).2).2).1 ((((h).2).2).2).1 (((((h).2).2).2).2).1 ((((((h).2).2).2).2).2).1 (((((((h).2).2).2).2).2).2)
theorem pP{p3:nY->Prop}{p4:nY->Prop}(h:p1/\p2/\(∃x1,p3 x1/\p4 x1))(f:p1->p2->∀x1,p3 x1->p4 x1->P):P:=((h.2).2).elim λ x1 h1=>f (h).1 ((h).2).1 x1 (h1).1 ((h1).2)
theorem F6{p2:nY->Prop}{p3:nY->Prop}(h:p1/\(∃x1,p2 x1/\p3 x1))(f:p1->∀x1,p2 x1->p3 x1->P):P:=(h.2).elim λ x1 h1=>f (h).1 x1 (h1).1 ((h1).2)
theorem F8{p2:nY->wM->Prop}{p3:nY->wM->Prop}{p4:nY->wM->Prop}(h:p1/\(∃x1,∃x2,p2 x1 x2/\p3 x1 x2/\p4 x1 x2))(f:p1->∀x1,∀x2,p2 x1 x2->p3 x1 x2->p4 x1 x2->P):P:=(h.2).elim λ x1 h1=>(h1).elim λ x2 h2=>f (h).1 x1 x2 (h2).1 ((h2).2).1 (((h2).2).2)
theorem bK{p1:nY->Prop}(h:∃x1,p1 x1)(f:∀x1,p1 x1->P):P:=h.elim λ x1 h1=>f x1 h1
theorem aI{p1:nY->Prop}{p2:nY->Prop}(h:∃x1,p1 x1/\p2 x1)(f:∀x1,p1 x1->p2 x1->P):P:=h.elim λ x1 h1=>f x1 (h1).1 ((h1).2)
theorem gp{p1:nY->Prop}{p2:nY->Prop}{p3:nY->Prop}(h:∃x1,p1 x1/\p2 x1/\p3 x1)(f:∀x1,p1 x1->p2 x1->p3 x1->P):P:=h.elim λ x1 h1=>f x1 (h1).1 ((h1).2).1 (((h1).2).2)
theorem pQ{p1:nY->Prop}{p2:nY->Prop}{p3:nY->Prop}{p4:nY->Prop}(h:∃x1,p1 x1/\p2 x1/\p3 x1/\p4 x1)(f:∀x1,p1 x1->p2 x1->p3 x1->p4 x1->P):P:=h.elim λ x1 h1=>f x1 (h1).1 ((h1).2).1 (((h1).2).2).1 ((((h1).2).2).2)
theorem TZ{p1:nY->wM->Prop}(h:∃x1,∃x2,p1 x1 x2)(f:∀x1,∀x2,p1 x1 x2->P):P:=h.elim λ x1 h1=>(h1).elim λ x2 h2=>f x1 x2 h2
theorem gq{p1:nY->wM->Prop}{p2:nY->wM->Prop}(h:∃x1,∃x2,p1 x1 x2/\p2 x1 x2)(f:∀x1,∀x2,p1 x1 x2->p2 x1 x2->P):P:=h.elim λ x1 h1=>(h1).elim λ x2 h2=>f x1 x2 (h2).1 ((h2).2)
theorem B9{p1:nY->wM->Prop}{p2:nY->wM->Prop}{p3:nY->wM->Prop}(h:∃x1,∃x2,p1 x1 x2/\p2 x1 x2/\p3 x1 x2)(f:∀x1,∀x2,p1 x1 x2->p2 x1 x2->p3 x1 x2->P):P:=h.elim λ x1 h1=>(h1).elim λ x2 h2=>f x1 x2 (h2).1 ((h2).2).1 (((h2).2).2)
theorem rS{p1:nY->wM->Prop}{p2:nY->wM->Prop}{p3:nY->wM->Prop}{p4:nY->wM->Prop}{p5:nY->wM->RN->Prop}{p6:nY->wM->RN->Prop}(h:∃x1,∃x2,p1 x1 x2/\p2 x1 x2/\p3 x1 x2/\p4 x1 x2/\(∃x3,p5 x1 x2 x3/\p6 x1 x2 x3))(f:∀x1,∀x2,p1 x1 x2->p2 x1 x2->p3 x1 x2->p4 x1 x2->∀x3,p5 x1 x2 x3->p6 x1 x2 x3->P):P:=h.elim λ x1 h1=>(h1).elim λ x2 h2=>(((((h2).2).2).2).2).elim λ x3 h3=>f x1 x2 (h2).1 ((h2).2).1 (((h2).2).2).1 ((((h2).2).2).2).1 x3 (h3).1 ((h3).2)
theorem O5{p1:nY->wM->RN->Prop}(h:∃x1,∃x2,∃x3,p1 x1 x2 x3)(f:∀x1,∀x2,∀x3,p1 x1 x2 x3->P):P:=h.elim λ x1 h1=>(h1).elim λ x2 h2=>(h2).elim λ x3 h3=>f x1 x2 x3 h3
theorem bw{p1:nY->wM->RN->Prop}{p2:nY->wM->RN->Prop}{p3:nY->wM->RN->Prop}(h:∃x1,∃x2,∃x3,p1 x1 x2 x3/\p2 x1 x2 x3/\p3 x1 x2 x3)(f:∀x1,∀x2,∀x3,p1 x1 x2 x3->p2 x1 x2 x3->p3 x1 x2 x3->P):P:=h.elim λ x1 h1=>(h1).elim λ x2 h2=>(h2).elim λ x3 h3=>f x1 x2 x3 (h3).1 ((h3).2).1 (((h3).2).2)
end
namespace Internal
open PySem PySem.W PyProof.Rows
theorem T3:OpenLaw.wellSaid Challenge.rw_sx_r026_3=true:=by kernel_rfl
end Internal
namespace Top
open PySem
noncomputable def tbl:List String:=["holk.core","bool","fun","var","const","=","abs","comb","bound","'","any","refl","assume","antisym","eqmp","trans","beta","inst","insttype","define","law_sx_r026_1","ind","x","y","x'","K","L","''","outer","inner","f","g","sym","c","","a","b","n","M","N","law_sx_r026_3","z","p","app","lam","equ","NNNNK=NNNNN"]
noncomputable def st(i:Nat):Str:=Str.ofString (tbl.getD i "")
noncomputable def GN:List Str:=(["_B","_law_bool","_law_any","_law_two","_law_k","_law_n","_law_taus","_law_open","_law_bad"]:List String).map Str.ofString
noncomputable def G:List PyData:=[(.tuple [(.str (st 1))]),(.tuple [(.str (st 1))]),(.tuple [(.str (st 10)),(.str (st 35))]),(.tuple [(.str (st 2)),(.tuple [(.str (st 1))]),(.tuple [(.str (st 2)),(.tuple [(.str (st 1))]),(.tuple [(.str (st 1))])])]),(.tuple [(.tuple [(.str (st 4)),(.str (st 25)),(.tuple [(.str (st 2)),(.tuple [(.str (st 1))]),(.tuple [(.str (st 2)),(.tuple [(.str (st 1))]),(.tuple [(.str (st 1))])])])]),(.str (st 25)),(.tuple [(.str (st 2)),(.tuple [(.str (st 1))]),(.tuple [(.str (st 2)),(.tuple [(.str (st 1))]),(.tuple [(.str (st 1))])])]),(.tuple []),(.tuple [])]),(.tuple [(.tuple [(.str (st 4)),(.str (st 39)),(.tuple [(.str (st 2)),(.tuple [(.str (st 1))]),(.tuple [(.str (st 2)),(.tuple [(.str (st 1))]),(.tuple [(.str (st 1))])])])]),(.str (st 39)),(.tuple [(.str (st 2)),(.tuple [(.str (st 1))]),(.tuple [(.str (st 2)),(.tuple [(.str (st 1))]),(.tuple [(.str (st 1))])])]),(.tuple []),(.tuple [])]),(.tuple [(.tuple [(.tuple [(.tuple [(.str (st 35)),(.tuple [(.str (st 1))])])]),(.tuple [(.str (st 1))])]),(.tuple [(.tuple [(.tuple [(.str (st 36)),(.tuple [(.str (st 1))])]),(.tuple [(.str (st 35)),(.tuple [(.str (st 21))])])]),(.tuple [(.str (st 21))])]),(.tuple [(.tuple [(.tuple [(.str (st 35)),(.tuple [(.str (st 2)),(.tuple [(.str (st 10)),(.str (st 35))]),(.tuple [(.str (st 1))])])])]),(.tuple [(.str (st 2)),(.tuple [(.str (st 10)),(.str (st 35))]),(.tuple [(.str (st 1))])])]),(.tuple [(.tuple [(.tuple [(.str (st 36)),(.tuple [(.str (st 21))])])]),(.tuple [(.str (st 10)),(.str (st 35))])])]),(.tuple [(.tuple [(.str (st 6)),(.tuple [(.str (st 3)),(.str (st 41)),(.tuple [(.str (st 10)),(.str (st 35))])]),(.tuple [(.str (st 4)),(.str (st 25)),(.tuple [(.str (st 2)),(.tuple [(.str (st 1))]),(.tuple [(.str (st 2)),(.tuple [(.str (st 1))]),(.tuple [(.str (st 1))])])])])]),(.tuple [(.str (st 6)),(.tuple [(.str (st 3)),(.str (st 22)),(.tuple [(.str (st 1))])]),(.tuple [(.str (st 4)),(.str (st 5)),(.tuple [(.str (st 2)),(.tuple [(.str (st 10)),(.str (st 35))]),(.tuple [(.str (st 2)),(.tuple [(.str (st 10)),(.str (st 35))]),(.tuple [(.str (st 1))])])])])]),(.tuple [(.str (st 6)),(.tuple [(.str (st 3)),(.str (st 31)),(.tuple [(.str (st 2)),(.tuple [(.str (st 1))]),(.tuple [(.str (st 10)),(.str (st 35))])])]),(.tuple [(.str (st 4)),(.str (st 25)),(.tuple [(.str (st 2)),(.tuple [(.str (st 1))]),(.tuple [(.str (st 2)),(.tuple [(.str (st 1))]),(.tuple [(.str (st 1))])])])])]),(.tuple [(.str (st 7)),(.tuple [(.str (st 4)),(.str (st 25)),(.tuple [(.str (st 2)),(.tuple [(.str (st 1))]),(.tuple [(.str (st 2)),(.tuple [(.str (st 1))]),(.tuple [(.str (st 1))])])])]),(.tuple [(.str (st 3)),(.str (st 22)),(.tuple [(.str (st 1))])])]),(.tuple [(.str (st 4)),(.str (st 39)),(.tuple [(.str (st 2)),(.tuple [(.str (st 1))]),(.tuple [(.str (st 2)),(.tuple [(.str (st 1))]),(.tuple [(.str (st 1))])])])])]),(.tuple [(.tuple [(.str (st 7)),(.tuple [(.str (st 3)),(.str (st 42)),(.tuple [(.str (st 1))])]),(.tuple [(.str (st 3)),(.str (st 42)),(.tuple [(.str (st 1))])])]),(.tuple [(.str (st 7)),(.tuple [(.str (st 4)),(.str (st 25)),(.tuple [(.str (st 2)),(.tuple [(.str (st 1))]),(.tuple [(.str (st 2)),(.tuple [(.str (st 1))]),(.tuple [(.str (st 1))])])])]),(.tuple [(.str (st 3)),(.str (st 41)),(.tuple [(.str (st 10)),(.str (st 35))])])]),(.tuple [(.str (st 4)),(.str (st 5)),(.tuple [(.str (st 1))])]),(.tuple [(.str (st 4)),(.str (st 5)),(.tuple [(.str (st 2)),(.tuple [(.str (st 1))]),(.tuple [(.str (st 2)),(.tuple [(.str (st 10)),(.str (st 35))]),(.tuple [(.str (st 1))])])])]),(.tuple [(.str (st 4)),(.str (st 25)),(.tuple [(.str (st 1))])]),(.tuple [(.str (st 6)),(.tuple [(.str (st 3)),(.str (st 42)),(.tuple [(.str (st 1))])]),(.tuple [(.str (st 4)),(.str (st 38)),(.tuple [(.str (st 1))])])]),(.tuple [(.str (st 7)),(.tuple [(.str (st 7)),(.tuple [(.str (st 4)),(.str (st 25)),(.tuple [(.str (st 2)),(.tuple [(.str (st 1))]),(.tuple [(.str (st 2)),(.tuple [(.str (st 1))]),(.tuple [(.str (st 1))])])])]),(.tuple [(.str (st 3)),(.str (st 42)),(.tuple [(.str (st 1))])])]),(.tuple [(.str (st 4)),(.str (st 38)),(.tuple [(.str (st 1))])])])])]
end Top
namespace Internal
open PySem PyProof.Rows PySem.W
noncomputable def gG(vs:List Value)(n:Nat):Obj:={ cls:=.type "tuple",data:=.seq vs.toArray n}
@[irreducible] def anyS {α:Type} {q:α->Prop} (o:Option (Subtype q)) (p:α->Bool):Bool:=match o with
 |some x=>p x.1
 |none=>false
noncomputable def X1(v:Value):Option {x:Unit // v=.none}:=match v with
 |.none=>some ⟨(),rfl⟩
 |_=>none
noncomputable def T4(v:Value):Option {x:Bool // v=.bool x}:=match v with
 |.bool b=>some ⟨b,rfl⟩
 |_=>none
noncomputable def X2(v:Value):Option {x:Int // ∃t,v=.int x t}:=match v with
 |.int b t=>some ⟨b,t,rfl⟩
 |_=>none
noncomputable def X3(v:Value):Option {x:Str // ∃t,v=.str x t}:=match v with
 |.str b t=>some ⟨b,t,rfl⟩
 |_=>none
noncomputable def X4(v:Value):Option {x:Addr // v=.ref x}:=match v with
 |.ref b=>some ⟨b,rfl⟩
 |_=>none
def X5(o:Obj):Option {x:List Value×Nat // o=gG x.1 x.2}:=match o with
 |⟨.type c,none,.seq arr n,sl⟩=>if h:c="tuple"/\sl.isEmpty=true then some ⟨(arr.toList,n),by obtain⟨rfl,h⟩:=h;rw[Array.isEmpty_iff.mp h];simp[gG]⟩ else none
 |_=>none
mutual
def X6(K:Frag):Nat->Value->PyData->Bool
 |0,_,_=>false
 |f+1,v,d=>match d with
  |.none=>anyS (X1 v) λ _=>true
  |.bool b=>anyS (T4 v) λ c=>b==c
  |.int i=>anyS (X2 v) λ j=>i==j
  |.str x=>anyS (X3 v) λ y=>x==y&&PyData.strOk x
  |.tuple xs=>anyS (X4 v) λ a=>(K.lookup a).any λ o=>anyS (X5 o) λ q=>F9 K f q.1 xs
  |.list _=>false
  |.dict _=>false
def F9(K:Frag):Nat->List Value->List PyData->Bool
 |0,_,_=>false
 |f+1,vs,xs=>match vs with
  |[]=>xs.isEmpty
  |v::vs=>match xs with
   |[]=>false
   |x::xs=>X6 K f v x&&F9 K f vs xs
end
noncomputable def agD(K:Frag)(x:Str):Bool:=match nsIn K mainGlobals x with|some none=>true|_=>false
def Nv(K:Frag)(x:Str)(d:PyData):Bool:=match nsIn K mainGlobals x with|some (some v)=>X6 K 40 v d|_=>false
def AH(K:Frag)(GN:List Str)(G:List PyData):Bool:=(GN.zip G).all λ p=>Nv K p.1 p.2
noncomputable abbrev PP:Program:=Challenge.pw_sx_r026_3
noncomputable def T5:List Nat:=(List.range 28).map (·+1)++(List.range 27).map (·+30)
def QQ:Program:=view PP T5
noncomputable abbrev LL:OpenLaw:=Challenge.rw_sx_r026_3
noncomputable def wN(h:Heap):Frag:=(List.range 500).filterMap λ a=>(h.get? a).map λ o=>(a,o)
def tj(K:Frag):Bool:=agD K "len"&&agD K "list"&&agD K "tuple"&&agD K "set"&&agD K "zip"&&agD K "range"&&agD K "ValueError"&&AH K Top.GN Top.G
abbrev XT:Shared->Bool:=λ s=>xlAt QQ [] s&&recOk (RowW.records LL.row.toRowW) s
abbrev SN:=openSeen QQ [] (importedModules PP.main.body) XT true
theorem T6:∀w,(openEnds treeTable PP w 2000).map (λ s=>tj (wN s.heap))=some true:=by
 intro w;kernel_rfl
theorem T7:∀w,(openEnds treeTable PP w 2000).map (λ s=>(SN s).1)=some (openGood QQ []).1:=by
 intro w;kernel_rfl
theorem T8:∀w,(openEnds treeTable PP w 2000).map (λ s=>(SN s).2)=some (openGood QQ []).2:=by
 intro w;kernel_rfl
end Internal
namespace Internal
open PySem
inductive V where
 |d (x:PyData)
 |loc (n:Nat)
noncomputable def V.ctorIdx(t:V):Nat:=t.casesOn (λ _=>0) (λ _=>1)
inductive agS where
 |lst (xs:List PyData)
 |dct (fc:List (Str×PyData))
noncomputable def agS.ctorIdx(t:agS):Nat:=t.casesOn (λ _=>0) (λ _=>1)
noncomputable abbrev agq:=List (Option V)
noncomputable abbrev ae:=List agS
inductive Res(α:Type) where
 |ok (a:α) (σ:ae)
 |err (σ:ae)
 |stuck
noncomputable def Res.ctorIdx{α}(t:Res α):Nat:=t.casesOn (λ _ _=>0) (λ _=>1) 2
noncomputable def Res.bind{α β:Type}(f:α->ae->Res β):Res α->Res β
 |.ok a σ=>f a σ
 |.err σ=>.err σ
 |.stuck=>.stuck
theorem Res.ax{α β:Type}(a:α)(σ:ae)(f:α->ae->Res β):(Res.ok a σ).bind f=f a σ:=rfl
noncomputable def Res.of{α:Type}(σ:ae):Option α->Res α
 |some a=>.ok a σ
 |none=>.stuck
theorem Res.bx{α:Type}(σ:ae)(a:α):Res.of σ (some a)=.ok a σ:=rfl
inductive T9(u:Unit:=()) where
 |add|sub|mod|mul
noncomputable def T9.ctorIdx{u}(t:T9 u):Nat:=t.casesOn 0 1 2 3
inductive Cm(u:Unit:=()) where
 |eq|ne|lt|le|gt|ge|is|rT|mem|nZ
noncomputable def Cm.ctorIdx{u}(t:Cm u):Nat:=t.casesOn 0 1 2 3 4 5 6 7 8 9
inductive Tg where
 |var (i:Nat)
 |tup (ts:List Tg)
inductive E where
 |con (x:PyData)
 |var (i:Nat)
 |glob (g:Nat)
 |tup (xs:List E)
 |lst (xs:List E)
 |idx (a i:E)
 |Fs (a:E) (lo hi:Nat)
 |cmp (op:Cm) (a b:E)
 |Ga (a b c:E)
 |and (xs:List E)
 |or (xs:List E)
 |not (a:E)
 |bin (op:T9) (a b:E)
 |neg (a:E)
 |call (f:Nat) (xs:List E)
 |len (a:E)
 |l5 (a:E)
 |oA (a:E)
 |qW (neg:Bool) (a:E) (i:Nat)
 |u0 (i:Nat) (k:E)
 |comp (n:Nat) (elt:E) (t:Tg) (it:E) (ifs:List E)
 |fY (n:Nat) (elt:E) (t1:Tg) (qQ:E) (t2:Tg) (it2:E)
 |j0 (a:E)
 |pick (ks:List Str) (vs:List E) (k:E)
inductive S where
 |assign (t:Tg) (e:E)
 |oN (i:Nat) (xs:List E)
 |newOf (i:Nat) (a:E)
 |wO (i:Nat)
 |u4 (i:Nat) (k v:E)
 |app (i:Nat) (e:E)
 |expr (e:E)
 |ite (c:E) (a b:List S)
 |yv (c:E) (b:List S)
 |i7 (t:Tg) (e:E) (b:List S)
 |tq (i:Nat) (args:List E) (b:List S)
 |ret (e:E)
 |raise
 |yw (i:Nat) (e:E)
 |tr (iw ip n:Nat) (xs:List E) (elt:E) (t:Tg)
inductive XR where
 |next (fr:agq) (σ:ae)
 |ret (v:V) (σ:ae)
 |err (σ:ae)
 |stuck
noncomputable def XR.ctorIdx(t:XR):Nat:=t.casesOn (λ _ _=>0) (λ _ _=>1) (λ _=>2) 3
noncomputable def XR.andThen(k:agq->ae->XR):XR->XR
 |.next fr σ=>k fr σ
 |.ret v σ=>.ret v σ
 |.err σ=>.err σ
 |.stuck=>.stuck
noncomputable def Res.then{α:Type}(f:α->ae->XR):Res α->XR
 |.ok a σ=>f a σ
 |.err σ=>.err σ
 |.stuck=>.stuck
theorem Res.gW{α:Type}(a:α)(σ:ae)(f:α->ae->XR):(Res.ok a σ).then f=f a σ:=rfl
noncomputable def aE(σ:ae):V->Option PyData
 |.d x=>some x
 |.loc n=>match σ[n]? with
  |some (.lst xs)=>some (.list xs)
  |_=>none
section
variable {x:PyData}{α β:Type}
noncomputable def lim:Nat:=1048576
noncomputable def fj:Nat:=1000
def O6:Int->Option Nat
 |.ofNat n=>if n<lim then some n else none
 |.negSucc _=>none
noncomputable def mJ:PyData->Option Int
 |.int i=>some i
 |_=>none
theorem ec{i:Int}(h:mJ x=some i):x=.int i:=by cases x<;>first|(cases h;rfl)|(cases h;done)
noncomputable def O7:PyData->Option Str
 |.str i=>some i
 |_=>none
theorem yx{i:Str}(h:O7 x=some i):x=.str i:=by cases x<;>first|(cases h;rfl)|(cases h;done)
noncomputable def DI:PyData->Option (List PyData)
 |.list i=>some i
 |_=>none
theorem mK{i:List PyData}(h:DI x=some i):x=.list i:=by cases x<;>first|(cases h;rfl)|(cases h;done)
noncomputable def Ua:PyData->Option (List PyData)
 |.tuple i=>some i
 |_=>none
theorem Gb{i:List PyData}(h:Ua x=some i):x=.tuple i:=by cases x<;>first|(cases h;rfl)|(cases h;done)
noncomputable def Nw:PyData->Option Bool
 |.bool i=>some i
 |_=>none
theorem DJ{i:Bool}(h:Nw x=some i):x=.bool i:=by cases x<;>first|(cases h;rfl)|(cases h;done)
theorem dR{o:Option α}{f:α->Option β}{b:β}(h:o.bind f=some b):∃a,o=some a/\f a=some b:=by
 cases o with
 |none=>cases h
 |some a=>exact⟨a,rfl,h⟩
theorem lx{o:Option α}{f:α->β}{b:β}(h:o.map f=some b):∃a,o=some a/\f a=b:=by
 cases o with
 |none=>cases h
 |some a=>cases h;exact⟨a,rfl,rfl⟩
theorem dr{c:Prop}[Decidable c]{a b:β}(h:(if c then some a else none)=some b):c/\a=b:=by
 by_cases q:c
 .rw[if_pos q] at h;cases h;exact⟨q,rfl⟩
 .rw[if_neg q] at h;cases h
noncomputable def atD(n:Nat):PyData->Option PyData
 |.list xs=>xs[n]?
 |.tuple xs=>xs[n]?
 |.str s=>(s.cps[n]?).map λ c=>.str ⟨#[c]⟩
 |_=>none
end
def dD(x y:PyData):Option PyData:=(mJ y).bind λ i=>(O6 i).bind λ n=>atD n x
def pR(lo hi:Nat):PyData->Option PyData
 |.list xs=>if xs.length<=lim then some (.list ((xs.take hi).drop lo)) else none
 |.tuple xs=>if xs.length<=lim then some (.tuple ((xs.take hi).drop lo)) else none
 |_=>none
def Ub(y:PyData):PyData->Option PyData
 |.int a=>(mJ y).map λ b=>.int (a+b)
 |.str a=>(O7 y).bind λ b=>if a.length+b.length<=lim then some (.str (a++b)) else none
 |.list a=>(DI y).bind λ b=>if a.length+b.length<=lim then some (.list (a++b)) else none
 |.tuple a=>(Ua y).bind λ b=>if a.length+b.length<=lim then some (.tuple (a++b)) else none
 |_=>none
def agK:T9->PyData->PyData->Option PyData
 |.add,x,y=>Ub y x
 |.sub,x,y=>(mJ x).bind λ a=>(mJ y).map λ b=>.int (a - b)
 |.mod,x,y=>(mJ x).bind λ a=>(mJ y).bind λ b=>if 0<b then some (.int (Int.fmod a b)) else none
 |.mul,x,y=>(DI x).bind λ l=>(mJ y).bind λ k=>if l.length=1/\0<=k/\k<=100 then some (.list (List.replicate k.toNat l).flatten) else none
theorem Gd(a b:Str):agK .add (.str a) (.str b)=if a.length+b.length<=lim then some (.str (a++b)) else none:=rfl
theorem Ge(a b:List PyData):agK .add (.list a) (.list b)=if a.length+b.length<=lim then some (.list (a++b)) else none:=rfl
theorem Gf(a b:Int):agK .mod (.int a) (.int b)=if 0<b then some (.int (Int.fmod a b)) else none:=rfl
noncomputable def X7:PyData->Option Bool
 |.none=>some false
 |_=>none
def O8:PyData->PyData->Option Bool
 |.none,y=>match y with
  |.none=>some true
  |.bool _=>some false
  |_=>none
 |.bool a,y=>match y with
  |.none=>some false
  |.bool b=>some (a==b)
  |_=>none
 |.tuple _,y=>X7 y
 |.list _,y=>X7 y
 |_,_=>none
def rU(x:PyData):PyData->Option Bool
 |.list xs=>if x.depth<=fj\/PyData.depthAll xs<=fj then some (xs.any λ y=>PyData.eqv y x) else none
 |.tuple xs=>if x.depth<=fj\/PyData.depthAll xs<=fj then some (xs.any λ y=>PyData.eqv y x) else none
 |_=>none
theorem pd1(xs:List PyData):(PyData.list xs).depth=PyData.depthAll xs+1:=rfl
theorem u5(xs:List PyData):(PyData.tuple xs).depth=PyData.depthAll xs+1:=rfl
theorem Xl(i:Int):(PyData.int i).depth=0:=rfl
theorem wQ(i:Str):(PyData.str i).depth=0:=rfl
theorem vA:PyData.depthAll []=0:=rfl
theorem uW(x:PyData)(xs:List PyData):PyData.depthAll (x::xs)=max x.depth (PyData.depthAll xs):=rfl
theorem sH(x:PyData)(xs:List PyData):rU x (.list xs)=if x.depth<=fj\/PyData.depthAll xs<=fj then some (xs.any λ y=>PyData.eqv y x) else none:=rfl
def Gg(f:Int->Int->Bool)(x y:PyData):Option Bool:=(mJ x).bind λ a=>(mJ y).map λ b=>f a b
theorem mL{f:Int->Int->Bool}{x y:PyData}{r:Bool}(h:Gg f x y=some r):∃i j,x=.int i/\y=.int j/\f i j=r:=by
 obtain⟨i,hi,h⟩:=dR h;obtain⟨j,hj,h⟩:=lx h;exact⟨i,j,ec hi,ec hj,h⟩
def eS:Cm->PyData->PyData->Option Bool
 |.eq,a,b=>if b.depth<=fj\/a.depth<=fj then some (PyData.eqv a b) else none
 |.ne,a,b=>if b.depth<=fj\/a.depth<=fj then some (!PyData.eqv a b) else none
 |.lt,a,b=>Gg (λ i j=>decide (i<j)) a b
 |.le,a,b=>Gg (λ i j=>decide (i<=j)) a b
 |.gt,a,b=>Gg (λ i j=>decide (j<i)) a b
 |.ge,a,b=>Gg (λ i j=>decide (j<=i)) a b
 |.is,a,b=>O8 a b
 |.rT,a,b=>(O8 a b).map (!·)
 |.mem,a,b=>rU a b
 |.nZ,a,b=>(rU a b).map (!·)
theorem oB(a b:PyData):eS .eq a b=if b.depth<=fj\/a.depth<=fj then some (PyData.eqv a b) else none:=rfl
theorem vB(a b:PyData):eS .ne a b=if b.depth<=fj\/a.depth<=fj then some (!PyData.eqv a b) else none:=rfl
def gr:PyData->Option PyData
 |.list xs=>if xs.length<=lim then some (.int xs.length) else none
 |.tuple xs=>if xs.length<=lim then some (.int xs.length) else none
 |_=>none
theorem Uc(xs:List PyData):gr (.list xs)=if xs.length<=lim then some (.int xs.length) else none:=rfl
theorem Ud(xs:List PyData):gr (.tuple xs)=if xs.length<=lim then some (.int xs.length) else none:=rfl
noncomputable def agt:PyData->Option (List PyData)
 |.list xs=>some xs
 |.tuple xs=>some xs
 |_=>none
def gX(x:PyData):Option PyData:=(agt x).bind λ xs=>if xs.length<=lim then some (.tuple xs) else none
def jJ(x:PyData):Option PyData:=(agt x).bind λ xs=>if xs.length<=lim then some (.list xs) else none
noncomputable def fQ:List V->Option (List PyData)
 |[]=>some []
 |.d x::r=>(fQ r).map (x::·)
 |.loc _::_=>none
noncomputable def aP:V->Option Bool
 |.d (.bool b)=>some b
 |_=>none
noncomputable def wR:agq->Nat->V->Option agq
 |[],_,_=>none
 |_::r,0,v=>some (some v::r)
 |x::r,i+1,v=>(wR r i v).map (x::·)
theorem X8:wR ([]) u1 u2=(none):=rfl
theorem X9:wR (u1::r) 0 v=(some (some v::r)):=rfl
theorem Yb:wR (x::r) (i+1) v=((wR r i v).map (x::·)):=rfl
theorem gu(v:V):∀(fr:agq) (i:Nat),wR fr i v=if i<fr.length then some (fr.set i (some v)) else none
 |[],i=>by simp[X8]
 |x::r,0=>by simp[X9]
 |x::r,i+1=>by
  simp only[Yb,gu v r i,List.length_cons,Nat.add_lt_add_iff_right,List.set_cons_succ];split<;>rfl
mutual
def asg(σ:ae):Tg->V->agq->Option agq
 |.var i,v,fr=>wR fr i v
 |.tup ts,v,fr=>match aE σ v with
  |some (.tuple xs)=>i8 σ ts xs fr
  |some (.list xs)=>i8 σ ts xs fr
  |_=>none
def i8(σ:ae):List Tg->List PyData->agq->Option agq
 |[],[],fr=>some fr
 |t::ts,x::xs,fr=>match asg σ t (.d x) fr with
  |some aR=>i8 σ ts xs aR
  |none=>none
 |_,_,_=>none
end
theorem Gh:asg σ (.var i) v fr=(wR fr i v):=rfl
theorem Yc:asg σ (.tup ts) v fr=(match aE σ v with
  |some (.tuple xs)=>i8 σ ts xs fr
  |some (.list xs)=>i8 σ ts xs fr
  |_=>none):=rfl
noncomputable abbrev aG:=Nat->List V->ae->Res V
noncomputable def aA(f:PyData->ae->Res (Option PyData)):List PyData->ae->Res (List PyData)
 |[],σ=>.ok [] σ
 |x::xs,σ=>(f x σ).bind λ o aM=>(aA f xs aM).bind λ ys dS=>.ok (match o with|some y=>y::ys|none=>ys) dS
theorem Gi:aA f ([]) σ=(.ok [] σ):=rfl
theorem Gj:aA f (x::xs) σ=((f x σ).bind λ o aM=>(aA f xs aM).bind λ ys dS=>.ok (match o with|some y=>y::ys|none=>ys) dS):=rfl
mutual
def agF:E->Bool
 |.con _=>true
 |.var _=>true
 |.glob _=>true
 |.tup xs=>ahf xs
 |.idx a i=>agF a&&agF i
 |.bin _ a b=>agF a&&agF b
 |_=>false
def ahf:List E->Bool
 |[]=>true
 |x::xs=>agF x&&ahf xs
end
noncomputable def rV(σ:ae)(m:Nat):Option (List PyData):=match σ[m]? with
 |some (.lst xs)=>some xs
 |_=>none
noncomputable def agz(f:PyData->ae->Res (List PyData)):List PyData->ae->Res (List PyData)
 |[],σ=>.ok [] σ
 |x::xs,σ=>(f x σ).bind λ a aM=>(agz f xs aM).bind λ ys dS=>.ok (a++ys) dS
theorem Ny:agz f ([]) σ=(.ok [] σ):=rfl
theorem Nz:agz f (x::xs) σ=((f x σ).bind λ a aM=>(agz f xs aM).bind λ ys dS=>.ok (a++ys) dS):=rfl
mutual
def hk:PyData->Bool
 |.str _=>true
 |.tuple xs=>pS xs
 |_=>false
def pS:List PyData->Bool
 |[]=>true
 |x::xs=>hk x&&pS xs
end
theorem Ue:pS ([])=(true):=rfl
theorem Ug:pS (x::xs)=(hk x&&pS xs):=rfl
noncomputable def ahg:PyData->Bool
 |.tuple _=>true
 |_=>false
noncomputable def wU(ds:List PyData)(x:PyData):List PyData:=if ds.any λ d=>PyData.eqv d x then ds else ds++[x]
def Ca(xs:List PyData):List PyData:=xs.foldl wU []
def ahb:PyData->Option PyData
 |.list xs=>if xs.all (λ x=>ahg x&&hk x&&decide (x.depth<=8))&&decide (xs.length<=4000)&&decide ((Ca xs).length<18) then some (.int (Ca xs).length) else none
 |_=>none
noncomputable def oO(fc:List (Str×PyData)):PyData->Option PyData
 |.str k=>fc.lookup k
 |_=>none
noncomputable def pT:List PyData->List PyData->List PyData->List PyData
 |a::as,b::bs,c::cs=>.tuple [a,b,c]::pT as bs cs
 |_,_,_=>[]
noncomputable def th3(a b c:List PyData):List PyData->Option (List PyData×List PyData×List PyData)
 |[]=>some (a,b,c)
 |_::_=>none
def th2(a b:List PyData):List PyData->Option (List PyData×List PyData×List PyData)
 |[]=>none
 |z::r=>(DI z).bind λ c=>th3 a b c r
def th1(a:List PyData):List PyData->Option (List PyData×List PyData×List PyData)
 |[]=>none
 |y::r=>(DI y).bind λ b=>th2 a b r
def three:List PyData->Option (List PyData×List PyData×List PyData)
 |[]=>none
 |x::r=>(DI x).bind λ a=>th1 a r
noncomputable def agN(σ:ae):Option (Option V)->Option (List (Str×PyData))
 |some (some (.loc n))=>match σ[n]? with
  |some (.dct fc)=>some fc
  |_=>none
 |_=>none
mutual
def evE(G:List PyData)(C:aG):E->agq->ae->Res V
 |.con x,_,σ=>.ok (.d x) σ
 |.var i,fr,σ=>match fr[i]? with
  |some (some v)=>.ok v σ
  |_=>.stuck
 |.glob g,_,σ=>match G[g]? with
  |some x=>.ok (.d x) σ
  |none=>.stuck
 |.tup xs,fr,σ=>(fL G C xs fr σ).bind λ vs σ=>(Res.of σ (fQ vs)).bind λ ds σ=>.ok (.d (.tuple ds)) σ
 |.lst xs,fr,σ=>(fL G C xs fr σ).bind λ vs σ=>(Res.of σ (fQ vs)).bind λ ds σ=>.ok (.d (.list ds)) σ
 |.idx a i,fr,σ=>(evE G C a fr σ).bind λ va σ=>(evE G C i fr σ).bind λ vi σ=>
   (Res.of σ (aE σ va)).bind λ x σ=>(Res.of σ (aE σ vi)).bind λ y σ=>(Res.of σ (dD x y)).bind λ r σ=>.ok (.d r) σ
 |.Fs a lo hi,fr,σ=>(evE G C a fr σ).bind λ va σ=>(Res.of σ (aE σ va)).bind λ x σ=>(Res.of σ (pR lo hi x)).bind λ r σ=>.ok (.d r) σ
 |.cmp op a b,fr,σ=>(evE G C a fr σ).bind λ va σ=>(evE G C b fr σ).bind λ vb σ=>
   (Res.of σ (aE σ va)).bind λ x σ=>(Res.of σ (aE σ vb)).bind λ y σ=>(Res.of σ ((eS op x y).map .bool)).bind λ r σ=>.ok (.d r) σ
 |.Ga a b c,fr,σ=>(evE G C a fr σ).bind λ va σ=>(evE G C b fr σ).bind λ vb σ=>
   (Res.of σ (aE σ va)).bind λ x σ=>(Res.of σ (aE σ vb)).bind λ y σ=>(Res.of σ (eS .le x y)).bind λ r σ=>
    if r then(evE G C c fr σ).bind λ vc σ=>(Res.of σ (aE σ vc)).bind λ z σ=>(Res.of σ (eS .lt y z)).bind λ r σ=>.ok (.d (.bool r)) σ
    else .ok (.d (.bool false)) σ
 |.and xs,fr,σ=>dg G C xs fr σ
 |.or xs,fr,σ=>i9 G C xs fr σ
 |.not a,fr,σ=>(evE G C a fr σ).bind λ v σ=>(Res.of σ (aP v)).bind λ b σ=>.ok (.d (.bool (!b))) σ
 |.bin op a b,fr,σ=>(evE G C a fr σ).bind λ va σ=>(evE G C b fr σ).bind λ vb σ=>
   (Res.of σ (aE σ va)).bind λ x σ=>(Res.of σ (aE σ vb)).bind λ y σ=>(Res.of σ (agK op x y)).bind λ r σ=>.ok (.d r) σ
 |.neg a,fr,σ=>(evE G C a fr σ).bind λ v σ=>match v with
   |.d (.int i)=>.ok (.d (.int (-i))) σ
   |_=>.stuck
 |.call f xs,fr,σ=>(fL G C xs fr σ).bind λ vs σ=>C f vs σ
 |.len a,fr,σ=>(evE G C a fr σ).bind λ v σ=>(Res.of σ (aE σ v)).bind λ x σ=>(Res.of σ (gr x)).bind λ r σ=>.ok (.d r) σ
 |.l5 a,fr,σ=>(evE G C a fr σ).bind λ v σ=>(Res.of σ (aE σ v)).bind λ x σ=>(Res.of σ (gX x)).bind λ r σ=>.ok (.d r) σ
 |.oA a,fr,σ=>(evE G C a fr σ).bind λ v σ=>(Res.of σ (aE σ v)).bind λ x σ=>(Res.of σ (jJ x)).bind λ r σ=>.ok (.d r) σ
 |.qW ng a i,fr,σ=>(evE G C a fr σ).bind λ v σ=>match v with
   |.d (.str k)=>(Res.of σ (agN σ fr[i]?)).bind λ fc σ=>.ok (.d (.bool (ng != (fc.lookup k).isSome))) σ
   |_=>.stuck
 |.u0 i a,fr,σ=>match fr[i]? with
   |some (some (.loc m))=>(evE G C a fr σ).bind λ v σ=>match v with
    |.d (.str k)=>(Res.of σ (agN σ (some (some (.loc m))))).bind λ fc σ=>(Res.of σ (fc.lookup k)).bind λ r σ=>.ok (.d r) σ
    |_=>.stuck
   |_=>.stuck
 |.comp n elt t it ifs,fr,σ=>(evE G C it fr σ).bind λ v σ=>match v with
   |.d x=>(Res.of σ (agt x)).bind λ items σ=>
     if items.length<=lim then
     (aA (λ y σ=>(Res.of σ (asg σ t (.d y) (fr++List.replicate n none))).bind λ aR σ=>(dg G C ifs aR σ).bind λ b σ=>(Res.of σ (aP b)).bind λ b σ=>
      if b then(evE G C elt aR σ).bind λ r σ=>match r with
       |.d z=>.ok (some z) σ
       |.loc _=>.stuck
      else .ok none σ) items σ).bind λ ys σ=>.ok (.d (.list ys)) σ
     else .stuck
   |.loc m=>(Res.of σ (rV σ m)).bind λ xs σ=>
     if(agF elt&&ifs.isEmpty)=true/\xs.length<=lim then
     (aA (λ y σ=>(Res.of σ (asg σ t (.d y) (fr++List.replicate n none))).bind λ aR σ=>(evE G C elt aR σ).bind λ r σ=>match r with
       |.d z=>.ok (some z) σ
       |.loc _=>.stuck) xs σ).bind λ ys σ=>.ok (.d (.list ys)) σ
     else .stuck
 |.fY n elt t1 qQ t2 it2,fr,σ=>(evE G C qQ fr σ).bind λ v σ=>match v with
   |.d x=>(Res.of σ (agt x)).bind λ items σ=>
     if(agF it2&&agF elt)=true/\items.length<=1000 then
     (agz (λ y σ=>(Res.of σ (asg σ t1 (.d y) (fr++List.replicate n none))).bind λ cQ σ=>(evE G C it2 cQ σ).bind λ v2 σ=>match v2 with
      |.d x2=>(Res.of σ (agt x2)).bind λ gv σ=>
       if gv.length<=1000 then
       aA (λ z σ=>(Res.of σ (asg σ t2 (.d z) cQ)).bind λ hG σ=>(evE G C elt hG σ).bind λ r σ=>match r with
        |.d q=>.ok (some q) σ
        |.loc _=>.stuck) gv σ
       else .stuck
      |.loc _=>.stuck) items σ).bind λ ys σ=>.ok (.d (.list ys)) σ
     else .stuck
   |.loc _=>.stuck
 |.j0 a,fr,σ=>(evE G C a fr σ).bind λ v σ=>(Res.of σ (aE σ v)).bind λ x σ=>(Res.of σ (ahb x)).bind λ r σ=>.ok (.d r) σ
 |.pick ks vs k,fr,σ=>(fL G C vs fr σ).bind λ vs σ=>(Res.of σ (fQ vs)).bind λ ds σ=>(evE G C k fr σ).bind λ vk σ=>
   (Res.of σ (aE σ vk)).bind λ y σ=>(Res.of σ (oO (ks.zip ds) y)).bind λ r σ=>.ok (.d r) σ
def fL(G:List PyData)(C:aG):List E->agq->ae->Res (List V)
 |[],_,σ=>.ok [] σ
 |x::xs,fr,σ=>(evE G C x fr σ).bind λ v σ=>(fL G C xs fr σ).bind λ vs σ=>.ok (v::vs) σ
def dg(G:List PyData)(C:aG):List E->agq->ae->Res V
 |[],_,σ=>.ok (.d (.bool true)) σ
 |x::xs,fr,σ=>(evE G C x fr σ).bind λ v σ=>(Res.of σ (aP v)).bind λ b σ=>if b then dg G C xs fr σ else .ok (.d (.bool false)) σ
def i9(G:List PyData)(C:aG):List E->agq->ae->Res V
 |[],_,σ=>.ok (.d (.bool false)) σ
 |x::xs,fr,σ=>(evE G C x fr σ).bind λ v σ=>(Res.of σ (aP v)).bind λ b σ=>if b then .ok (.d (.bool true)) σ else i9 G C xs fr σ
end
theorem Ka:dg G C ([]) u1 σ=(.ok (.d (.bool true)) σ):=rfl
theorem Kb:dg G C (x::xs) fr σ=((evE G C x fr σ).bind λ v σ=>(Res.of σ (aP v)).bind λ b σ=>if b then dg G C xs fr σ else .ok (.d (.bool false)) σ):=rfl
theorem O9:i9 G C ([]) u1 σ=(.ok (.d (.bool false)) σ):=rfl
theorem Pa:i9 G C (x::xs) fr σ=((evE G C x fr σ).bind λ v σ=>(Res.of σ (aP v)).bind λ b σ=>if b then .ok (.d (.bool true)) σ else i9 G C xs fr σ):=rfl
theorem Yd:fL G C ([]) u1 σ=(.ok [] σ):=rfl
theorem Ye:fL G C (x::xs) fr σ=((evE G C x fr σ).bind λ v σ=>(fL G C xs fr σ).bind λ vs σ=>.ok (v::vs) σ):=rfl
def bl(body:agq->ae->XR)(t:Tg):List PyData->agq->ae->XR
 |[],fr,σ=>.next fr σ
 |x::xs,fr,σ=>match asg σ t (.d x) fr with
  |some aR=>(body aR σ).andThen (bl body t xs)
  |none=>.stuck
theorem Uh:bl body t ([]) fr σ=(.next fr σ):=rfl
theorem Ui:bl body t (x::xs) fr σ=(match asg σ t (.d x) fr with
  |some aR=>(body aR σ).andThen (bl body t xs)
  |none=>.stuck):=rfl
def fR(body:agq->ae->XR)(t:Tg)(n:Nat):Nat->Nat->agq->ae->XR
 |0,_,_,_=>.stuck
 |k+1,i,fr,σ=>match σ[n]? with
  |some (.lst xs)=>match xs[i]? with
   |none=>.next fr σ
   |some x=>match asg σ t (.d x) fr with
    |some aR=>(body aR σ).andThen (fR body t n k (i+1))
    |none=>.stuck
  |_=>.stuck
theorem yy:fR body t n 0 u1 u2 u3=(.stuck):=rfl
theorem yz:fR body t n (k+1) i fr σ=(match σ[n]? with
  |some (.lst xs)=>match xs[i]? with
   |none=>.next fr σ
   |some x=>match asg σ t (.d x) fr with
    |some aR=>(body aR σ).andThen (fR body t n k (i+1))
    |none=>.stuck
  |_=>.stuck):=rfl
def agC(c:agq->ae->Res V)(body:agq->ae->XR):Nat->agq->ae->XR
 |0,_,_=>.stuck
 |k+1,fr,σ=>(c fr σ).then λ v σ=>(Res.of σ (aP v)).then λ b σ=>if b then(body fr σ).andThen (agC c body k) else .next fr σ
theorem Pb:agC c body 0 u1 u2=(.stuck):=rfl
theorem Pc:agC c body (k+1) fr σ=((c fr σ).then λ v σ=>(Res.of σ (aP v)).then λ b σ=>if b then(body fr σ).andThen (agC c body k) else .next fr σ):=rfl
def rg3(lo hi st:Int):List PyData->Option (List PyData)
 |[]=>if st=-1/\hi=-1/\-1<=lo/\lo<=1000 then some ((List.range (lo+1).toNat).map λ(i:Nat)=>.int (lo+-1 * i)) else none
 |_::_=>none
def rg2(lo hi:Int):List PyData->Option (List PyData)
 |[]=>none
 |z::r=>(mJ z).bind λ st=>rg3 lo hi st r
def rg1(lo:Int):List PyData->Option (List PyData)
 |[]=>if -1000<=lo/\lo<=1000 then some ((List.range lo.toNat).map λ(i:Nat)=>.int (0+1 * i)) else none
 |y::r=>(mJ y).bind λ hi=>rg2 lo hi r
def iO:List PyData->Option (List PyData)
 |[]=>none
 |x::r=>(mJ x).bind λ lo=>rg1 lo r
theorem Kc(lo hi st:Int):iO [.int lo,.int hi,.int st]=if st=-1/\hi=-1/\-1<=lo/\lo<=1000 then some ((List.range (lo+1).toNat).map λ(i:Nat)=>.int (lo+-1 * i)) else none:=rfl
mutual
def exS(G:List PyData)(C:aG):S->agq->ae->XR
 |.assign t e,fr,σ=>(evE G C e fr σ).then λ v σ=>(Res.of σ (asg σ t v fr)).then λ aR σ=>.next aR σ
 |.oN i xs,fr,σ=>(fL G C xs fr σ).then λ vs σ=>(Res.of σ (fQ vs)).then λ ds σ=>
   if i<fr.length then .next (fr.set i (some (.loc σ.length))) (σ++[.lst ds]) else .stuck
 |.newOf i a,fr,σ=>(evE G C a fr σ).then λ v σ=>(Res.of σ (aE σ v)).then λ x σ=>(Res.of σ (agt x)).then λ ds σ=>
   if i<fr.length/\ds.length<=lim then .next (fr.set i (some (.loc σ.length))) (σ++[.lst ds]) else .stuck
 |.wO i,fr,σ=>if i<fr.length then .next (fr.set i (some (.loc σ.length))) (σ++[.dct []]) else .stuck
 |.u4 i k v,fr,σ=>(evE G C v fr σ).then λ v σ=>match v,fr[i]? with
   |.d x,some (some (.loc n))=>(evE G C k fr σ).then λ k σ=>(match k,σ[n]? with
    |.d (.str k),some (.dct fc)=>if(fc.lookup k).isNone/\fc.length<=lim then .next fr (σ.set n (.dct (fc++[(k,x)]))) else .stuck
    |_,_=>.stuck)
   |_,_=>.stuck
 |.app i e,fr,σ=>match fr[i]? with
   |some (some (.loc n))=>(match σ[n]? with
    |some (.lst _)=>(evE G C e fr σ).then λ v σ=>(match v,σ[n]? with
     |.d x,some (.lst xs)=>if xs.length<=lim then .next fr (σ.set n (.lst (xs++[x]))) else .stuck
     |_,_=>.stuck)
    |_=>.stuck)
   |_=>.stuck
 |.expr e,fr,σ=>(evE G C e fr σ).then λ _ σ=>.next fr σ
 |.ite c a b,fr,σ=>(evE G C c fr σ).then λ v σ=>(Res.of σ (aP v)).then λ t σ=>if t then aD G C a fr σ else aD G C b fr σ
 |.yv c b,fr,σ=>agC (λ fr σ=>evE G C c fr σ) (λ fr σ=>aD G C b fr σ) 1000 fr σ
 |.i7 t e b,fr,σ=>(evE G C e fr σ).then λ v σ=>match v with
   |.d x=>(Res.of σ (agt x)).then λ items σ=>bl (λ fr σ=>aD G C b fr σ) t items fr σ
   |.loc n=>(Res.of σ (match σ[n]? with|some (.lst xs)=>some xs.length|_=>none)).then λ k σ=>fR (λ fr σ=>aD G C b fr σ) t n (k+1) 0 fr σ
 |.tq i args b,fr,σ=>(fL G C args fr σ).then λ vs σ=>(Res.of σ ((fQ vs).bind iO)).then λ items σ=>bl (λ fr σ=>aD G C b fr σ) (.var i) items fr σ
 |.ret e,fr,σ=>(evE G C e fr σ).then λ v σ=>.ret v σ
 |.raise,_,σ=>.err σ
 |.yw i e,fr,σ=>if i<fr.length then(match evE G C e fr σ with
   |.ok v σ=>.next (fr.set i (some v)) σ
   |.err σ=>.next (fr.set i (some (.d .none))) σ
   |.stuck=>.stuck) else .stuck
 |.tr iw ip n xs elt t,fr,σ=>(fL G C xs fr σ).then λ vs σ=>(Res.of σ ((fQ vs).bind three)).then λ qR σ=>
   if(agF elt=true/\iw<fr.length/\ip<fr.length)/\qR.1.length=qR.2.1.length/\qR.1.length=qR.2.2.length/\qR.1.length<=1000 then
    (aA (λ y σ=>(Res.of σ (asg σ t (.d y) (fr.set iw none++List.replicate n none))).bind λ aR σ=>(evE G C elt aR σ).bind λ r σ=>match r with
       |.d z=>.ok (some z) σ
       |.loc _=>.stuck) (pT qR.1 qR.2.1 qR.2.2) σ).then λ ys σ=>.next ((fr.set iw none).set ip (some (.d (.list ys)))) σ
   else .stuck
def aD(G:List PyData)(C:aG):List S->agq->ae->XR
 |[],fr,σ=>.next fr σ
 |s::r,fr,σ=>(exS G C s fr σ).andThen (aD G C r)
end
theorem Pd:aD G C ([]) fr σ=(.next fr σ):=rfl
theorem Pe:aD G C (s::r) fr σ=((exS G C s fr σ).andThen (aD G C r)):=rfl
structure FD where
 mN:Nat
 tu:Nat
 body:List S
noncomputable def agO(n:Nat):XR->Res V
 |.next _ σ=>.ok (.d .none) (σ.take n)
 |.ret (.d x) σ=>.ok (.d x) (σ.take n)
 |.ret (.loc k) σ=>if k<n then .ok (.loc k) (σ.take n) else match σ[k]? with
  |some (.lst xs)=>.ok (.d (.list xs)) (σ.take n)
  |_=>.stuck
 |.err σ=>.err (σ.take n)
 |.stuck=>.stuck
def pU(FT:List FD)(G:List PyData):Nat->aG
 |0=>λ _ _ _=>.stuck
 |n+1=>λ f args σ=>match FT[f]? with
  |some fd=>if args.length=fd.mN then agO σ.length (aD G (pU FT G n) fd.body (args.map some++List.replicate (fd.tu - fd.mN) none) σ) else .stuck
  |none=>.stuck
theorem Res.Kd{α β:Type}{r:Res α}{f:α->ae->Res β}{b:β}{aM:ae}(h:r.bind f=.ok b aM):∃a σ,r=.ok a σ/\f a σ=.ok b aM:=by
 cases r with
 |ok a σ=>exact⟨a,σ,rfl,h⟩
 |err=>cases h
 |stuck=>cases h
theorem Ke{d:PyData}{xs:List PyData}(h:agt d=some xs):d=.list xs\/d=.tuple xs:=by
 cases d with
 |list l=>exact .inl (congrArg _ (bD h))
 |tuple l=>exact .inr (congrArg _ (bD h))
 |_=>cases h
theorem Kf:evE G C (.var i) fr σ=(match fr[i]? with
  |some (some v)=>.ok v σ
  |_=>.stuck):=rfl
theorem Gk:evE G C (.glob g) fr σ=(match G[g]? with
  |some x=>.ok (.d x) σ
  |none=>.stuck):=rfl
theorem Cb:evE G C (.tup xs) fr σ=((fL G C xs fr σ).bind λ vs σ=>(Res.of σ (fQ vs)).bind λ ds σ=>.ok (.d (.tuple ds)) σ):=rfl
theorem Kg:evE G C (.lst xs) fr σ=((fL G C xs fr σ).bind λ vs σ=>(Res.of σ (fQ vs)).bind λ ds σ=>.ok (.d (.list ds)) σ):=rfl
theorem Cd:evE G C (.idx a i) fr σ=((evE G C a fr σ).bind λ va σ=>(evE G C i fr σ).bind λ vi σ=>
   (Res.of σ (aE σ va)).bind λ x σ=>(Res.of σ (aE σ vi)).bind λ y σ=>(Res.of σ (dD x y)).bind λ r σ=>.ok (.d r) σ):=rfl
theorem Ce:evE G C (.cmp op a b) fr σ=((evE G C a fr σ).bind λ va σ=>(evE G C b fr σ).bind λ vb σ=>
   (Res.of σ (aE σ va)).bind λ x σ=>(Res.of σ (aE σ vb)).bind λ y σ=>(Res.of σ ((eS op x y).map .bool)).bind λ r σ=>.ok (.d r) σ):=rfl
theorem wV:evE G C (.Ga a b c) fr σ=((evE G C a fr σ).bind λ va σ=>(evE G C b fr σ).bind λ vb σ=>
   (Res.of σ (aE σ va)).bind λ x σ=>(Res.of σ (aE σ vb)).bind λ y σ=>(Res.of σ (eS .le x y)).bind λ r σ=>
    if r then(evE G C c fr σ).bind λ vc σ=>(Res.of σ (aE σ vc)).bind λ z σ=>(Res.of σ (eS .lt y z)).bind λ r σ=>.ok (.d (.bool r)) σ
    else .ok (.d (.bool false)) σ):=rfl
theorem Cf:evE G C (.not a) fr σ=((evE G C a fr σ).bind λ v σ=>(Res.of σ (aP v)).bind λ b σ=>.ok (.d (.bool (!b))) σ):=rfl
theorem Cg:evE G C (.bin op a b) fr σ=((evE G C a fr σ).bind λ va σ=>(evE G C b fr σ).bind λ vb σ=>
   (Res.of σ (aE σ va)).bind λ x σ=>(Res.of σ (aE σ vb)).bind λ y σ=>(Res.of σ (agK op x y)).bind λ r σ=>.ok (.d r) σ):=rfl
theorem Kh:evE G C (.neg a) fr σ=((evE G C a fr σ).bind λ v σ=>match v with
   |.d (.int i)=>.ok (.d (.int (-i))) σ
   |_=>.stuck):=rfl
theorem Gl:evE G C (.call f xs) fr σ=((fL G C xs fr σ).bind λ vs σ=>C f vs σ):=rfl
theorem Ki:evE G C (.len a) fr σ=((evE G C a fr σ).bind λ v σ=>(Res.of σ (aE σ v)).bind λ x σ=>(Res.of σ (gr x)).bind λ r σ=>.ok (.d r) σ):=rfl
theorem DK:evE G C (.l5 a) fr σ=((evE G C a fr σ).bind λ v σ=>(Res.of σ (aE σ v)).bind λ x σ=>(Res.of σ (gX x)).bind λ r σ=>.ok (.d r) σ):=rfl
theorem DL:evE G C (.oA a) fr σ=((evE G C a fr σ).bind λ v σ=>(Res.of σ (aE σ v)).bind λ x σ=>(Res.of σ (jJ x)).bind λ r σ=>.ok (.d r) σ):=rfl
theorem tv:evE G C (.qW ng a i) fr σ=((evE G C a fr σ).bind λ v σ=>match v with
   |.d (.str k)=>(Res.of σ (agN σ fr[i]?)).bind λ fc σ=>.ok (.d (.bool (ng != (fc.lookup k).isSome))) σ
   |_=>.stuck):=rfl
theorem yA:evE G C (.u0 i a) fr σ=(match fr[i]? with
   |some (some (.loc m))=>(evE G C a fr σ).bind λ v σ=>match v with
    |.d (.str k)=>(Res.of σ (agN σ (some (some (.loc m))))).bind λ fc σ=>(Res.of σ (fc.lookup k)).bind λ r σ=>.ok (.d r) σ
    |_=>.stuck
   |_=>.stuck):=rfl
theorem pV:evE G C (.comp n elt t it ifs) fr σ=((evE G C it fr σ).bind λ v σ=>match v with
   |.d x=>(Res.of σ (agt x)).bind λ items σ=>
     if items.length<=lim then
     (aA (λ y σ=>(Res.of σ (asg σ t (.d y) (fr++List.replicate n none))).bind λ aR σ=>(dg G C ifs aR σ).bind λ b σ=>(Res.of σ (aP b)).bind λ b σ=>
      if b then(evE G C elt aR σ).bind λ r σ=>match r with
       |.d z=>.ok (some z) σ
       |.loc _=>.stuck
      else .ok none σ) items σ).bind λ ys σ=>.ok (.d (.list ys)) σ
     else .stuck
   |.loc m=>(Res.of σ (rV σ m)).bind λ xs σ=>
     if(agF elt&&ifs.isEmpty)=true/\xs.length<=lim then
     (aA (λ y σ=>(Res.of σ (asg σ t (.d y) (fr++List.replicate n none))).bind λ aR σ=>(evE G C elt aR σ).bind λ r σ=>match r with
       |.d z=>.ok (some z) σ
       |.loc _=>.stuck) xs σ).bind λ ys σ=>.ok (.d (.list ys)) σ
     else .stuck):=rfl
theorem nF:evE G C (.fY n elt t1 qQ t2 it2) fr σ=((evE G C qQ fr σ).bind λ v σ=>match v with
   |.d x=>(Res.of σ (agt x)).bind λ items σ=>
     if(agF it2&&agF elt)=true/\items.length<=1000 then
     (agz (λ y σ=>(Res.of σ (asg σ t1 (.d y) (fr++List.replicate n none))).bind λ cQ σ=>(evE G C it2 cQ σ).bind λ v2 σ=>match v2 with
      |.d x2=>(Res.of σ (agt x2)).bind λ gv σ=>
       if gv.length<=1000 then
       aA (λ z σ=>(Res.of σ (asg σ t2 (.d z) cQ)).bind λ hG σ=>(evE G C elt hG σ).bind λ r σ=>match r with
        |.d q=>.ok (some q) σ
        |.loc _=>.stuck) gv σ
       else .stuck
      |.loc _=>.stuck) items σ).bind λ ys σ=>.ok (.d (.list ys)) σ
     else .stuck
   |.loc _=>.stuck):=rfl
theorem AI:evE G C (.j0 a) fr σ=((evE G C a fr σ).bind λ v σ=>(Res.of σ (aE σ v)).bind λ x σ=>(Res.of σ (ahb x)).bind λ r σ=>.ok (.d r) σ):=rfl
theorem Gm:evE G C (.pick ks vs k) fr σ=((fL G C vs fr σ).bind λ vs σ=>(Res.of σ (fQ vs)).bind λ ds σ=>(evE G C k fr σ).bind λ vk σ=>
   (Res.of σ (aE σ vk)).bind λ y σ=>(Res.of σ (oO (ks.zip ds) y)).bind λ r σ=>.ok (.d r) σ):=rfl
theorem cz:exS G C (.assign t e) fr σ=((evE G C e fr σ).then λ v σ=>(Res.of σ (asg σ t v fr)).then λ aR σ=>.next aR σ):=rfl
theorem ja:exS G C (.oN i xs) fr σ=((fL G C xs fr σ).then λ vs σ=>(Res.of σ (fQ vs)).then λ ds σ=>
   if i<fr.length then .next (fr.set i (some (.loc σ.length))) (σ++[.lst ds]) else .stuck):=rfl
theorem fZ:exS G C (.newOf i a) fr σ=((evE G C a fr σ).then λ v σ=>(Res.of σ (aE σ v)).then λ x σ=>(Res.of σ (agt x)).then λ ds σ=>
   if i<fr.length/\ds.length<=lim then .next (fr.set i (some (.loc σ.length))) (σ++[.lst ds]) else .stuck):=rfl
theorem kG:exS G C (.wO i) fr σ=(if i<fr.length then .next (fr.set i (some (.loc σ.length))) (σ++[.dct []]) else .stuck):=rfl
theorem jc:exS G C (.u4 i k v) fr σ=((evE G C v fr σ).then λ v σ=>match v,fr[i]? with
   |.d x,some (some (.loc n))=>(evE G C k fr σ).then λ k σ=>(match k,σ[n]? with
    |.d (.str k),some (.dct fc)=>if(fc.lookup k).isNone/\fc.length<=lim then .next fr (σ.set n (.dct (fc++[(k,x)]))) else .stuck
    |_,_=>.stuck)
   |_,_=>.stuck):=rfl
theorem ly:exS G C (.app i e) fr σ=(match fr[i]? with
   |some (some (.loc n))=>(match σ[n]? with
    |some (.lst _)=>(evE G C e fr σ).then λ v σ=>(match v,σ[n]? with
     |.d x,some (.lst xs)=>if xs.length<=lim then .next fr (σ.set n (.lst (xs++[x]))) else .stuck
     |_,_=>.stuck)
    |_=>.stuck)
   |_=>.stuck):=rfl
theorem je:exS G C (.expr e) fr σ=((evE G C e fr σ).then λ _ σ=>.next fr σ):=rfl
theorem lz:exS G C (.ite c a b) fr σ=((evE G C c fr σ).then λ v σ=>(Res.of σ (aP v)).then λ t σ=>if t then aD G C a fr σ else aD G C b fr σ):=rfl
theorem hH:exS G C (.yv c b) fr σ=(agC (λ fr σ=>evE G C c fr σ) (λ fr σ=>aD G C b fr σ) 1000 fr σ):=rfl
theorem jf:exS G C (.i7 t e b) fr σ=((evE G C e fr σ).then λ v σ=>match v with
   |.d x=>(Res.of σ (agt x)).then λ items σ=>bl (λ fr σ=>aD G C b fr σ) t items fr σ
   |.loc n=>(Res.of σ (match σ[n]? with|some (.lst xs)=>some xs.length|_=>none)).then λ k σ=>fR (λ fr σ=>aD G C b fr σ) t n (k+1) 0 fr σ):=rfl
theorem jg:exS G C (.tq i args b) fr σ=((fL G C args fr σ).then λ vs σ=>(Res.of σ ((fQ vs).bind iO)).then λ items σ=>bl (λ fr σ=>aD G C b fr σ) (.var i) items fr σ):=rfl
theorem lA:exS G C (.ret e) fr σ=((evE G C e fr σ).then λ v σ=>.ret v σ):=rfl
theorem gO:exS G C (.raise) fr σ=(.err σ):=rfl
theorem kH:exS G C (.yw i e) fr σ=(if i<fr.length then(match evE G C e fr σ with
   |.ok v σ=>.next (fr.set i (some v)) σ
   |.err σ=>.next (fr.set i (some (.d .none))) σ
   |.stuck=>.stuck) else .stuck):=rfl
theorem jh:exS G C (.tr iw ip n xs elt t) fr σ=((fL G C xs fr σ).then λ vs σ=>(Res.of σ ((fQ vs).bind three)).then λ qR σ=>
   if(agF elt=true/\iw<fr.length/\ip<fr.length)/\qR.1.length=qR.2.1.length/\qR.1.length=qR.2.2.length/\qR.1.length<=1000 then
    (aA (λ y σ=>(Res.of σ (asg σ t (.d y) (fr.set iw none++List.replicate n none))).bind λ aR σ=>(evE G C elt aR σ).bind λ r σ=>match r with
       |.d z=>.ok (some z) σ
       |.loc _=>.stuck) (pT qR.1 qR.2.1 qR.2.2) σ).then λ ys σ=>.next ((fr.set iw none).set ip (some (.d (.list ys)))) σ
   else .stuck):=rfl
noncomputable abbrev Fz:=Addr->Option Obj
noncomputable def dE(vs:List Value)(n:Nat):Obj:={ cls:=.type "list",data:=.seq vs.toArray n}
mutual
inductive RD(Φ:Fz):Value->PyData->Prop
 |none:RD Φ .none .none
 |bool (b:Bool):RD Φ (.bool b) (.bool b)
 |int (i:Int) (t:Tok):RD Φ (.int i t) (.int i)
 |str (x:Str) (t:Tok):PyData.strOk x=true->RD Φ (.str x t) (.str x)
 |tuple {a:Addr} {vs:List Value} {n:Nat} {xs:List PyData}:Φ a=some (gG vs n)->dF Φ vs xs->RD Φ (.ref a) (.tuple xs)
 |list {a:Addr} {vs:List Value} {n:Nat} {xs:List PyData}:Φ a=some (dE vs n)->dF Φ vs xs->RD Φ (.ref a) (.list xs)
inductive dF(Φ:Fz):List Value->List PyData->Prop
 |nil:dF Φ [] []
 |cons {v:Value} {vs:List Value} {x:PyData} {xs:List PyData}:RD Φ v x->dF Φ vs xs->dF Φ (v::vs) (x::xs)
end
theorem RD.mono(h:∀a o,Φ a=some o->Φ' a=some o)(r:RD Φ v x):RD Φ' v x:=
 RD.rec (motive_1:=λ v x _=>RD Φ' v x) (motive_2:=λ vs xs _=>dF Φ' vs xs) .none .bool .int .str (λ e _ k=>.tuple (h _ _ e) k) (λ e _ k=>.list (h _ _ e) k) .nil (λ _ _ k l=>.cons k l) r
theorem dF.mono(h:∀a o,Φ a=some o->Φ' a=some o)(r:dF Φ vs xs):dF Φ' vs xs:=
 dF.rec (motive_1:=λ _ _ _=>True) (motive_2:=λ vs xs _=>dF Φ' vs xs) trivial (λ _=>trivial) (λ _ _=>trivial) (λ _ _ _=>trivial) (λ _ _ _=>trivial) (λ _ _ _=>trivial) .nil (λ e _ _ l=>.cons (e.mono h) l) r
theorem dF.ind{M:List Value->List PyData->Prop}(n:M [] [])(c:∀{v vs x xs},RD Φ v x->dF Φ vs xs->M vs xs->M (v::vs) (x::xs))(r:dF Φ vs xs):M vs xs:=
 dF.rec (motive_1:=λ _ _ _=>True) (motive_2:=λ vs xs _=>M vs xs) trivial (λ _=>trivial) (λ _ _=>trivial) (λ _ _ _=>trivial) (λ _ _ _=>trivial) (λ _ _ _=>trivial) n (λ e r _ l=>c e r l) r
def RDi(Φ:Fz)(v:Value)(x:PyData):Prop:=x.casesOn (v=.none) (λ b=>v=.bool b) (λ i=>∃t,v=.int i t) (λ x=>∃t,v=.str x t/\PyData.strOk x=true)
 (λ xs=>∃a vs n,v=.ref a/\Φ a=some (dE vs n)/\dF Φ vs xs) (λ xs=>∃a vs n,v=.ref a/\Φ a=some (gG vs n)/\dF Φ vs xs) (λ _=>False)
theorem RD.i(r:RD Φ v x):RDi Φ v x:=
 RD.casesOn (motive_1:=λ v x _=>RDi Φ v x) r rfl (λ _=>rfl) (λ _ t=>⟨t,rfl⟩) (λ _ t k=>⟨t,rfl,k⟩) (λ e r=>⟨_,_,_,rfl,e,r⟩) (λ e r=>⟨_,_,_,rfl,e,r⟩)
def Uj(Φ:Fz)(vs:List Value)(xs:List PyData):Prop:=xs.casesOn (vs=[]) (λ x xs=>∃v ws,vs=v::ws/\RD Φ v x/\dF Φ ws xs)
theorem dF.i(r:dF Φ vs xs):Uj Φ vs xs:=
 dF.casesOn (motive_2:=λ vs xs _=>Uj Φ vs xs) r rfl (λ e r=>⟨_,_,rfl,e,r⟩)
theorem dF.length(r:dF Φ vs xs):vs.length=xs.length:=dF.ind (M:=λ vs xs=>vs.length=xs.length) rfl (λ _ _ k=>congrArg (·+1) k) r
theorem dF.append(r:dF Φ vs xs)(k:dF Φ ws ys):dF Φ (vs++ws) (xs++ys):=dF.ind (M:=λ vs xs=>dF Φ (vs++ws) (xs++ys)) k (λ e _ k=>.cons e k) r
theorem dF.get(r:dF Φ vs xs):∀{i:Nat} {x:PyData},xs[i]?=some x->∃v,vs[i]?=some v/\RD Φ v x:=
 dF.ind (M:=λ vs xs=>∀{i:Nat} {x:PyData},xs[i]?=some x->∃v,vs[i]?=some v/\RD Φ v x) (λ q=>nomatch q) (λ{v _ _ _} e _ k i x q=>by
  induction i with
  |zero=>exact⟨v,rfl,bD q▸e⟩
  |succ i _=>exact k (i:=i) q) r
theorem dF.take(n:Nat)(r:dF Φ vs xs):dF Φ (vs.take n) (xs.take n):=
 dF.ind (M:=λ vs xs=>∀n,dF Φ (vs.take n) (xs.take n)) (λ n=>by rw[List.take_nil,List.take_nil];exact .nil) (λ e _ k n=>by
  induction n with
  |zero=>exact .nil
  |succ n _=>exact .cons e (k n)) r n
theorem dF.drop(n:Nat)(r:dF Φ vs xs):dF Φ (vs.drop n) (xs.drop n):=
 dF.ind (M:=λ vs xs=>∀n,dF Φ (vs.drop n) (xs.drop n)) (λ n=>by rw[List.drop_nil,List.drop_nil];exact .nil) (λ e r k n=>by
  induction n with
  |zero=>exact .cons e r
  |succ n _=>exact k n) r n
theorem DM(e:h.get? a=some (gG vs n)):(∃as,ReadsAll h vs xs as)->∃as,Reads h (.ref a) (.tuple xs) as:=λ k=>k.elim λ as q=>⟨as,.tuple e rfl rfl q⟩
theorem vC(e:h.get? a=some (dE vs n)):(∃as,ReadsAll h vs xs as)->∃as,Reads h (.ref a) (.list xs) as:=λ k=>k.elim λ as q=>⟨_,.list e rfl rfl q⟩
theorem RD.reads(hf:∀a o,Φ a=some o->h.get? a=some o)(r:RD Φ v x):∃as,Reads h v x as:=
 RD.rec (motive_1:=λ v x _=>∃as,Reads h v x as) (motive_2:=λ vs xs _=>∃as,ReadsAll h vs xs as) ⟨_,.none⟩ (λ b=>⟨_,.bool b⟩) (λ i t=>⟨_,.int i t⟩) (λ x t _=>⟨_,.str x t⟩)
  (λ e _ k=>DM (hf _ _ e) k) (λ e _ k=>vC (hf _ _ e) k) ⟨_,.nil⟩ (λ _ _ q p=>q.elim λ _ q=>p.elim λ _ p=>⟨_,.cons q p⟩) r
theorem dF.reads(hf:∀a o,Φ a=some o->h.get? a=some o)(r:dF Φ vs xs):∃as,ReadsAll h vs xs as:=
 dF.ind (M:=λ vs xs=>∃as,ReadsAll h vs xs as) ⟨_,.nil⟩ (λ e _ p=>p.elim λ _ p=>(e.reads hf).elim λ _ q=>⟨_,.cons q p⟩) r
theorem RD.lay(r:RD Φ v x):x.canLay0=true:=
 RD.rec (motive_1:=λ _ x _=>x.canLay0=true) (motive_2:=λ _ xs _=>PyData.canLayAll0 xs=true) rfl (λ _=>rfl) (λ _ _=>rfl) (λ _ _ k=>by simpa[PyData.canLay0] using k) (λ _ _ k=>by simpa[PyData.canLay0] using k) (λ _ _ k=>by simpa[PyData.canLay0] using k) rfl
  (λ _ _ k l=>by simp[PyData.canLayAll0,k,l]) r
theorem dF.lay(r:dF Φ vs xs):PyData.canLayAll0 xs=true:=
 dF.ind (M:=λ _ xs=>PyData.canLayAll0 xs=true) rfl (λ e _ l=>by simp[PyData.canLayAll0,e.lay,l]) r
theorem dF.ni(r:dF Φ vs []):vs=[]:=r.i
theorem dF.inv(r:dF Φ vs (x::xs)):∃v ws,vs=v::ws/\RD Φ v x/\dF Φ ws xs:=r.i
theorem RD.ii{v:Value}{i:Int}(r:RD Φ v (.int i)):∃t,v=.int i t:=r.i
theorem RD.bi(r:RD Φ v (.bool b)):v=.bool b:=r.i
theorem dF.three(r:dF Φ vs [x,y,z]):∃a b c,vs=[a,b,c]/\RD Φ a x/\RD Φ b y/\RD Φ c z:=
 r.inv.elim λ a k=>k.elim λ _ k=>k.2.2.inv.elim λ b l=>l.elim λ _ l=>l.2.2.inv.elim λ c m=>m.elim λ _ m=>⟨a,b,c,by rw[k.1,l.1,m.1,m.2.2.ni],k.2.1,l.2.1,m.2.1⟩
inductive RT(h:Heap)(Φ:Fz):Value->PyData->Prop
 |fe {v:Value} {x:PyData}:RD Φ v x->RT h Φ v x
 |cell {a:Addr} {vs:List Value} {n:Nat} {xs:List PyData}:h.get? a=some (dE vs n)->dF Φ vs xs->RT h Φ (.ref a) (.list xs)
theorem RT.reads(hf:∀a o,Φ a=some o->h.get? a=some o)(r:RT h Φ v x):∃as,Reads h v x as:=
 RT.casesOn (motive:=λ v x _=>∃as,Reads h v x as) r (λ r=>r.reads hf) (λ e r=>vC e (r.reads hf))
theorem RT.lay(r:RT h Φ v x):x.canLay0=true:=
 RT.casesOn (motive:=λ _ x _=>x.canLay0=true) r (λ r=>r.lay) (λ e r=>by simpa[PyData.canLay0] using r.lay)
theorem RT.i(hf:∀a o,Φ a=some o->h.get? a=some o)(r:RT h Φ v (.list xs)):∃a vs n,v=.ref a/\h.get? a=some (dE vs n)/\dF Φ vs xs:=
 RT.casesOn (motive:=λ v x _=>∀{xs},x=.list xs->∃a vs n,v=.ref a/\h.get? a=some (dE vs n)/\dF Φ vs xs) r (λ r xs e=>by subst e;exact r.i.imp λ _ k=>k.imp λ _ k=>k.imp λ _ k=>⟨k.1,hf _ _ k.2.1,k.2.2⟩) (λ e r xs q=>by cases q;exact⟨_,_,_,rfl,e,r⟩) rfl
theorem RT.list(hf:∀a o,Φ a=some o->h.get? a=some o)(r:RT h Φ v (.list xs)):∃a vs n,v=.ref a/\h.get? a=some (dE vs n)/\dF Φ vs xs:=r.i hf
theorem RT.nl(r:RT h Φ v x):RD Φ v x\/∃xs,x=.list xs:=RT.casesOn (motive:=λ v x _=>RD Φ v x\/∃xs,x=.list xs) r .inl (λ _ _=>.inr ⟨_,rfl⟩)
theorem RT.tuple(hf:∀a o,Φ a=some o->h.get? a=some o)(r:RT h Φ v (.tuple xs)):∃a vs n,v=.ref a/\h.get? a=some (gG vs n)/\dF Φ vs xs:=r.nl.elim (λ r=>r.i.imp λ _ k=>k.imp λ _ k=>k.imp λ _ k=>⟨k.1,hf _ _ k.2.1,k.2.2⟩) λ e=>e.elim nofun
theorem RT.int{v:Value}{i:Int}(r:RT h Φ v (.int i)):∃t,v=.int i t:=r.nl.elim (λ r=>r.i) λ e=>e.elim nofun
theorem RT.str(r:RT h Φ v (.str x)):∃t,v=.str x t/\PyData.strOk x=true:=r.nl.elim (λ r=>r.i) λ e=>e.elim nofun
theorem RT.bool(r:RT h Φ v (.bool b)):v=.bool b:=r.nl.elim (λ r=>r.i) λ e=>e.elim nofun
theorem RT.none(r:RT h Φ v .none):v=.none:=r.nl.elim (λ r=>r.i) λ e=>e.elim nofun
structure Wd where
 prog:Program
 w:World
 h₀:Heap
 mg:Str->Option Value
 mb:Str->Option Value
 G:List PyData
 GN:List Str
 FT:List FD
 FN:List Str
inductive PR(Φ:Fz):List (Str×Value)->List (Str×PyData)->Prop
 |nil:PR Φ [] []
 |cons {k:Str} {v:Value} {x:PyData} {ws:List (Str×Value)} {fc:List (Str×PyData)}:RD Φ v x->PR Φ ws fc->PR Φ ((k,v)::ws) ((k,x)::fc)
theorem PR.mono(h:∀a o,Φ a=some o->Φ' a=some o)(r:PR Φ ws fc):PR Φ' ws fc:=by
 induction r with
 |nil=>exact .nil
 |cons e _ ih=>exact .cons (e.mono h) ih
theorem PR.length(r:PR Φ ws fc):ws.length=fc.length:=by
 induction r with
 |nil=>rfl
 |cons _ _ ih=>simp[ih]
def lB(W:Wd)(Φ:Fz)(h:Heap)(a:Addr):agS->Prop
 |.lst xs=>∃vs n,h.get? a=some (dE vs n)/\dF Φ vs xs
 |.dct fc=>∃ws,h.DictOf (strKind W.prog W.w) a ws/\PR Φ ws fc
theorem lB.alive(x:lB W Φ h a c):∃o,h.get? a=some o:=by
 cases c with
 |lst xs=>obtain⟨_,_,e,_⟩:=x;exact⟨_,e⟩
 |dct fc=>obtain⟨_,⟨o,_,_,e,_⟩,_⟩:=x;exact⟨_,e⟩
theorem lB.mono(hm:∀a o,Φ a=some o->Φ' a=some o)(hk:∀o,h.get? a=some o->h'.get? a=some o)(x:lB W Φ h a c):lB W Φ' h' a c:=by
 cases c with
 |lst xs=>obtain⟨vs,n,e,r⟩:=x;exact⟨vs,n,hk _ e,r.mono hm⟩
 |dct fc=>obtain⟨ws,e,r⟩:=x;exact⟨ws,e.at hk,r.mono hm⟩
structure Inv(W:Wd)(Φ:Fz)(ρ:List Addr)(σ:ae)(h:Heap):Prop where
 base:∀a o,W.h₀.get? a=some o->Φ a=some o
 fe:∀a o,Φ a=some o->h.get? a=some o
 len:ρ.length=σ.length
 cell:∀(n:Nat) (a:Addr) (c:agS),ρ[n]?=some a->σ[n]?=some c->lB W Φ h a c
 nodup:ρ.Nodup
 apart:∀a∈ρ,Φ a=none
theorem Inv.keeps(I:Inv W Φ ρ σ h):∀b o,W.h₀.get? b=some o->h.get? b=some o:=λ b o e=>I.fe b o (I.base b o e)
structure Kp(X:Addr->Prop)(fs:List Addr)(h h':Heap):Prop where
 alive:∀a o,h.get? a=some o->∃o',h'.get? a=some o'
 keep:∀a o,¬X a->a∉fs->h.get? a=some o->h'.get? a=some o
 slots:∀a o,¬X a->h.get? a=some o->∃sl,h'.get? a=some { o with slots:=sl}
section
variable {X Y:Addr->Prop}
theorem Kp.refl(X:Addr->Prop)(fs:List Addr)(h:Heap):Kp X fs h h:=⟨λ _ o e=>⟨o,e⟩,λ _ _ _ _ e=>e,λ _ o _ e=>⟨o.slots,e⟩⟩
theorem Kp.trans(a:Kp X fs av aQ)(b:Kp X fs aQ aO):Kp X fs av aO:=
 ⟨λ x o e=>let⟨o',e'⟩:=a.alive x o e;b.alive x o' e',λ x o hx hf e=>b.keep x o hx hf (a.keep x o hx hf e),λ x o hx e=>let⟨_,e'⟩:=a.slots x o hx e;let⟨sl,oP⟩:=b.slots x _ hx e';⟨sl,oP⟩⟩
theorem Kp.mono(k:Kp X fs h h')(hx:∀a,X a->Y a)(hf:∀a∈fs,a∈gs):Kp Y gs h h':=
 ⟨k.alive,λ a o ha hg e=>k.keep a o (λ q=>ha (hx a q)) (λ q=>hg (hf a q)) e,λ a o ha e=>k.slots a o (λ q=>ha (hx a q)) e⟩
theorem Kp.Uk(k:Kp X fs h h')(hx:∀a o,h.get? a=some o->X a->Y a)(hf:∀a o,h.get? a=some o->¬Y a->a∈fs->a∈gs):Kp Y gs h h':=
 ⟨k.alive,λ a o ha hg e=>k.keep a o (λ q=>ha (hx a o e q)) (λ q=>hg (hf a o e ha q)) e,λ a o ha e=>k.slots a o (λ q=>ha (hx a o e q)) e⟩
theorem Kp.push(X:Addr->Prop)(fs:List Addr)(h:Heap)(o:Obj):Kp X fs h (h.push o):=
 ⟨λ _ o' e=>⟨o',dA _ e⟩,λ _ _ _ _ e=>dA _ e,λ _ o' _ e=>⟨o'.slots,dA _ e⟩⟩
theorem Kp.sameBut(hs:Heap.SameBut a h h')(ha:X a\/h.get? a=none)(hl:∃o',h'.get? a=some o'):Kp X fs h h':=by
 have key:∀x o,¬X x->h.get? x=some o->h'.get? x=some o:=λ x o hx e=>by
  have:x≠a:=by rintro rfl;rcases ha with q|q;exact hx q;rw[q] at e;cases e
  exact(hs.2 x this).trans e
 refine⟨λ x o e=>?_,λ x o hx _ e=>key x o hx e,λ x o hx e=>⟨o.slots,key x o hx e⟩⟩;by_cases q:x=a
 .subst q;exact hl
 .exact⟨o,(hs.2 x q).trans e⟩
theorem Kp.bo(k:∀a o,h.get? a=some o->h'.get? a=some o):Kp X fs h h':=
 ⟨λ a o e=>⟨o,k a o e⟩,λ a o _ _ e=>k a o e,λ a o _ e=>⟨o.slots,k a o e⟩⟩
structure agA(ρ fs:List Addr)(Φ:Fz)(h:Heap)(Φ':Fz)(h':Heap):Prop where
 ext:∀a o,Φ a=some o->Φ' a=some o
 fresh:∀a o,h.get? a=some o->Φ' a=Φ a
 kp:Kp (·∈ρ) fs h h'
theorem agA.refl(ρ fs:List Addr)(Φ:Fz)(h:Heap):agA ρ fs Φ h Φ h:=⟨λ _ _ e=>e,λ _ _ _=>rfl,.refl ..⟩
theorem agA.trans(a:agA ρ fs cJ av ff aQ)(b:agA ρ fs ff aQ d6 aO):agA ρ fs cJ av d6 aO:=
 ⟨λ x o e=>b.ext x o (a.ext x o e),λ x o e=>let⟨o',e'⟩:=a.kp.alive x o e;(b.fresh x o' e').trans (a.fresh x o e),a.kp.trans b.kp⟩
theorem agA.bo(k:∀a o,h.get? a=some o->h'.get? a=some o):agA ρ fs Φ h Φ h':=⟨λ _ _ e=>e,λ _ _ _=>rfl,.bo k⟩
noncomputable def VR(Φ:Fz)(ρ:List Addr)(v:Value):V->Prop
 |.d x=>RD Φ v x
 |.loc n=>∃a,ρ[n]?=some a/\v=.ref a
theorem VR.mono(h:∀a o,Φ a=some o->Φ' a=some o):∀{x:V},VR Φ ρ v x->VR Φ' ρ v x
 |.d _,r=>RD.mono h r
 |.loc _,r=>r
def yB(Φ:Fz)(ρ:List Addr):List Value->List V->Prop
 |[],[]=>True
 |v::vs,x::xs=>VR Φ ρ v x/\yB Φ ρ vs xs
 |_,_=>False
theorem yB.mono(h:∀a o,Φ a=some o->Φ' a=some o):∀{vs:List Value} {xs:List V},yB Φ ρ vs xs->yB Φ' ρ vs xs
 |[],[],_=>trivial
 |_::_,_::_,r=>⟨VR.mono h r.1,yB.mono h r.2⟩
 |[],_::_,r=>r.elim
 |_::_,[],r=>r.elim
theorem yB.length:∀{vs:List Value} {xs:List V},yB Φ ρ vs xs->vs.length=xs.length
 |[],[],_=>rfl
 |_::_,_::_,r=>by simp[yB.length r.2]
 |[],_::_,r=>r.elim
 |_::_,[],r=>r.elim
theorem yB.fQ:∀{vs:List Value} {xs:List V} {ds:List PyData},yB Φ ρ vs xs->fQ xs=some ds->dF Φ vs ds
 |[],[],ds,_,e=>by obtain rfl:=bD e;exact .nil
 |v::vs,.d x::xs,ds,r,e=>by
  obtain⟨ds',e',rfl⟩:=Option.map_eq_some_iff.mp e;exact .cons r.1 (yB.fQ r.2 e')
 |v::vs,.loc _::xs,ds,r,e=>by cases e
 |[],_::_,_,r,_=>r.elim
 |_::_,[],_,r,_=>r.elim
theorem Gp{σ:ae}{n:Nat}(e:aE σ (.loc n)=some d):∃xs,σ[n]?=some (.lst xs)/\d=.list xs:=by
 unfold aE at e;dsimp only at e;generalize σ[n]?=o at e ⊢;induction o with
 |none=>cases e
 |some c=>
  induction c with
  |lst xs=>exact⟨xs,rfl,(bD e).symm⟩
  |dct=>cases e
theorem Inv.aE(I:Inv W Φ ρ σ h)(r:VR Φ ρ v x)(e:aE σ x=some d):RT h Φ v d:=by
 cases x with
 |d x=>obtain rfl:=bD e;exact .fe r
 |loc n=>
  obtain⟨a,ha,rfl⟩:=r;obtain⟨xs,hs,rfl⟩:=Gp e;obtain⟨vs,k,hg,hr⟩:=I.cell n a _ ha hs;exact .cell hg hr
inductive Tb(Φ:Fz)(ρ:List Addr)(L:Addr)(h h':Heap)(e:Addr)(vs:Array Value)(c:Bool):Prop
 |none:c=false->vs[1]?=some .none->Tb Φ ρ L h h' e vs c
 |some {T:Addr} {oT:Obj} {ts:Array Value}:vs[1]?=some (.ref T)->T≠e->h.get? T=.none->Φ T=.none->T∉ρ->h'.get? T=some oT->oT.data=.fields ts ->
   (ts[3]?=some (rawInt L)\/(c=false/\∃y,ts[3]?=some y))->Tb Φ ρ L h h' e vs c
inductive bA(Φ:Fz)(ρ:List Addr)(L:Addr)(h h':Heap)(e:Addr)(c:Bool):Prop
 |mk (new:h.get? e=none) (fz:Φ e=none) (out:e∉ρ) (oe:Obj) (vs:Array Value) (he:h'.get? e=some oe) (hc:oe.cls=.type "ValueError") (hd:oe.data=.fields vs) (tb:Tb Φ ρ L h h' e vs c):bA Φ ρ L h h' e c
theorem bA.weaken(t:bA Φ ρ L h h' e true):bA Φ ρ L h h' e false:=by
 obtain⟨a,b,c,oe,vs,h1,h2,h3,h4⟩:=t;refine⟨a,b,c,oe,vs,h1,h2,h3,?_⟩;induction h4 with
 |none q _=>exact Bool.noConfusion q
 |some a b c d e f g k=>exact .some a b c d e f g (by rcases k with k|⟨k,_⟩;exact .inl k;exact Bool.noConfusion k)
theorem bA.back(k:∀a o,h₀.get? a=some o->∃o',h.get? a=some o')(t:bA Φ ρ L h h' e c):bA Φ ρ L h₀ h' e c:=by
 have key:∀a,h.get? a=none->h₀.get? a=none:=λ a q=>by
  refine cq (h₀.get? a) (λ e=>?_) (λ o e=>?_)
  .rfl
  .obtain⟨o',e'⟩:=k a o e;rw[q] at e';cases e'
 obtain⟨a,b,c,oe,vs,h1,h2,h3,h4⟩:=t;refine⟨key _ a,b,c,oe,vs,h1,h2,h3,?_⟩;induction h4 with
 |none q z=>exact .none q z
 |some a b c d e f g k=>exact .some a b (key _ c) d e f g k
inductive NA(Φ:Fz)(ρ:List Addr)(h:Heap)(env:Env):Prop
 |mk (k:env.scope.kind≠.module) (L:Addr) (o:Obj) (h1:env.frame=some L) (h2:h.get? L=some o) (h3:∀vs,o.data≠.fields vs) (h4:Φ L=none) (h5:L∉ρ):NA Φ ρ h env
def bh(l:List Env)(Φ:Fz)(ρ:List Addr)(h:Heap):Prop:=∀env∈l,NA Φ ρ h env
end
section
variable {X:Addr->Prop}{W:Wd}{A:Around}{E R:Value->Shared->Prop}{s:Shared}{Φ':Fz}{ρ:List Addr}{σ:ae}{h:Heap}{L e:Addr}{Q:Unit->Shared->Prop}
noncomputable abbrev cK(l:List Env):List Addr:=l.filterMap (·.frame)
theorem bh.mem(S:bh l Φ ρ h)(ha:a∈cK l):Φ a=none/\a∉ρ/\∃o,h.get? a=some o/\∀vs,o.data≠.fields vs:=by
 refine aI (kx.mp ha) λ env he hf=>?_;obtain⟨_,L,o,h1,h2,h3,h4,h5⟩:=S env he;haveI hf:=h1▸hf;obtain rfl:=bD hf;exact⟨h4,h5,o,h2,h3⟩
theorem bh.fun(S:bh l Φ ρ h):h.FunFrames ⟨#[],{}⟩ l:=by
 induction l with
 |nil=>trivial
 |cons env l ih=>
  obtain⟨hk,L,o,h1,h2,h3,_,_⟩:=S env dC;refine⟨hk,⟨L,o,h1,?_,h2,h3⟩,ih λ e he=>S e (d8 _ he)⟩;simp[Heap.get?]
theorem bh.kp(S:bh l Φ ρ h)(k:Kp X fs h h')(hx:∀a∈cK l,¬X a)(hf:∀a o,h.get? a=some o->Φ' a=Φ a):bh l Φ' ρ h':=by
 intro env he;obtain⟨hk,L,o,h1,h2,h3,h4,h5⟩:=S env he;refine bK (k.slots L o (hx L (kx.mpr ⟨env,he,h1⟩)) h2) λ sl e=>?_;exact⟨hk,L,_,h1,e,h3,(hf L o h2).trans h4,h5⟩
theorem bh.step(S:bh l Φ ρ h)(k:agA ρ fs Φ h Φ' h'):bh l Φ' ρ h':=
 S.kp k.kp (λ a ha=>(S.mem ha).2.1) k.fresh
theorem yC(nG:A.frames=some (e0::af))(DN:e0.frame=some L)(hf:env.frame=some L)(hs:s.heap=h')(SO:bh (e0::af) Φ' ρ h')(I:Inv W Φ' ρ σ h')(St:Kp X (cK (e0::af)) h h')(new:h.get? e=none)(fz:Φ' e=none)(out:e∉ρ)(he:h'.get? e=some oe)(hc:oe.cls=.type "ValueError")(hd:oe.data=.fields vs)(qS:1<vs.size)(hQ:∀cb,Inv W Φ' ρ σ cb->Kp X (cK (e0::af)) h cb->bh (e0::af) Φ' ρ cb->bA Φ' ρ L h cb e true->Q () { s with heap:=cb}):wpAny (model W.prog W.w) A (do setField (.ref e) 1 (←EntryCells.newEntry head (←frameOf env) .none (rawInt L) .none (←entryPlaceOf L Xm))) Q E s:=by
 subst hs;have Ul:e∉cK (e0::af):=λ hm=>by
  refine pP (SO.mem hm) λ _ _ o ho Kj=>?_;rw[he] at ho;cases ho;exact Kj vs hd
 have Pf:∀(Q':Value->Shared->Prop),(∀av,Heap.SlotsOnly (cK (e0::af)) s.heap av->Q' (.ref L) { s with heap:=av})->wpAny (model W.prog W.w) A (frameOf env) Q' E s:=by
  intro Q' hq;unfold frameOf;refine ak (wpAny_frameEnvs nG ?_);have hdw:((e0::af).dropWhile λ x=>x.frame != env.frame)=e0::af:=by simp[List.dropWhile,DN,hf]
  rw[hdw];unfold frameObject;refine ak (ak (wpAny_readyFrames_fun SO.fun λ av dh=>aF ?_));rw[DN];exact aF (hq av dh)
 refine ak (Pf _ λ av dh=>?_);refine ak (wpAny_entryPlaceOf λ pl Kk=>?_);unfold EntryCells.newEntry newFields;refine ak (wpAny_newObj_type ?_ (Kk.sizeOk5 _ _ _ _ _));generalize Um:({ cls:=.type "traceback",dict:=none,data:=.fields ([head,.ref L,.none,rawInt L,.none]++(if pl.isEmpty then List.replicate 6 Value.none else pl)).toArray}:Obj)=tb;have NB:av.get? e=some oe:=(dh.2.1 e Ul).trans he;have Ci:=dA (h:=av) tb NB;refine wpAny_setField Ci hd qS ?_;have DO:av.objs.size≠e:=Nat.ne_of_gt (eE NB);have NC:=Obj.data_mapFields hd (·.setIfInBounds 1 (Value.ref av.objs.size));have ND:=Heap.get?_update_self (Obj.mapFields (·.setIfInBounds 1 (Value.ref av.objs.size))) Ci (Obj.isFreed_of_fields NC);have ji:tb.isFreed=false:=by rw[←Um];rfl
 have Un:=(Heap.get?_update_other (av.push tb) (Obj.mapFields (·.setIfInBounds 1 (Value.ref av.objs.size))) (Ne.symm DO)).trans (d5 av ji);have gP:∀a o,s.heap.get? a=some o->a≠av.objs.size:=λ a o q=>by rw[dh.1];exact dI (eE q)
 have yD:s.heap.get? av.objs.size=none:=by
  refine cq (s.heap.get? av.objs.size) (λ q=>?_) (λ o q=>?_)
  .rfl
  .exact absurd rfl (gP _ o q)
 have up:∀a o,a≠e->av.get? a=some o->((av.push tb).update e (Obj.mapFields (·.setIfInBounds 1 (Value.ref av.objs.size)))).get? a=some o:=λ a o NF q=>by
  rw[Heap.get?_update_other _ _ (Ne.symm NF)];exact dA _ q
 have same:∀a o,a≠e->a∉cK (e0::af)->s.heap.get? a=some o->((av.push tb).update e (Obj.mapFields (·.setIfInBounds 1 (Value.ref av.objs.size)))).get? a=some o:=λ a o NF Kj q=>
  up a o NF ((dh.2.1 a Kj).trans q)
 have slot:∀a o,a≠e->s.heap.get? a=some o->∃sl,((av.push tb).update e (Obj.mapFields (·.setIfInBounds 1 (Value.ref av.objs.size)))).get? a=some { o with slots:=sl}:=λ a o NF q=>by
  refine bK (dh.2.2 a o q) λ sl q'=>?_;exact⟨sl,up a _ NF q'⟩
 have live:∀a o,s.heap.get? a=some o->∃o',((av.push tb).update e (Obj.mapFields (·.setIfInBounds 1 (Value.ref av.objs.size)))).get? a=some o':=λ a o q=>by
  by_cases NF:a=e
  .subst NF;exact⟨_,ND⟩
  .refine bK (slot a o NF q) λ sl q'=>?_;exact⟨_,q'⟩
 have eZ:∀a o,h.get? a=some o->a≠e:=λ a o q r=>by rw[r,new] at q;cases q
 refine hQ _ ⟨I.base,λ a o q=>same a o (λ r=>by rw[r,fz] at q;cases q) (λ r=>by rw[(SO.mem r).1] at q;cases q) (I.fe a o q),I.len,λ n a c h1 h2=>?_,I.nodup,I.apart⟩ ?_ ?_ ?_
 .have ha:a∈ρ:=dH h1;exact(I.cell n a c h1 h2).mono (λ _ _ q=>q) λ o q=>same a o (λ r=>out (r▸ha)) (λ r=>(SO.mem r).2.1 ha) q
 .refine⟨λ a o q=>?_,λ a o hx hn q=>?_,λ a o hx q=>?_⟩
  .refine bK (St.alive a o q) λ o' q'=>?_;exact live a o' q'
  .exact same a o (eZ a o q) hn (St.keep a o hx hn q)
  .refine bK (St.slots a o hx q) λ sl q'=>?_;refine bK (slot a _ (eZ a o q) q') λ NG q''=>?_;exact⟨NG,q''⟩
 .intro me uX;obtain⟨k,L',o,p1,p2,p3,p4,p5⟩:=SO me uX;have:L'≠e:=λ r=>Ul (r▸kx.mpr ⟨me,uX,p1⟩);refine bK (slot L' o this p2) λ sl q=>?_;exact⟨k,L',_,p1,q,p3,p4,p5⟩
 .refine⟨new,fz,out,_,_,ND,(Obj.cls_mapFields _ _).trans hc,NC,.some (T:=av.objs.size) (oT:=tb) (ts:=([head,.ref L,.none,rawInt L,.none]++(if pl.isEmpty then List.replicate 6 Value.none else pl)).toArray) (by simp[qS]) DO ?_ ?_ ?_ Un (by rw[←Um]) (.inl (by simp))⟩
  .refine cq (h.get? av.objs.size) (λ q=>?_) (λ o q=>?_)
   .rfl
   .obtain⟨o',q'⟩:=St.alive _ o q;rw[yD] at q';cases q'
  .refine cq (Φ' av.objs.size) (λ q=>?_) (λ o q=>?_)
   .rfl
   .rw[I.fe _ _ q] at yD;cases yD
  .intro q;refine bK (List.getElem?_of_mem q) λ n hn=>?_;have e7:n<σ.length:=by rw[←I.len];exact(gi.mp hn).1
   refine bK ((I.cell n _ σ[n] hn (by simp[e7])).alive) λ o ho=>?_;rw[yD] at ho;cases ho
theorem sJ(nG:A.frames=some (e0::af))(DN:e0.frame=some L)(hf:env.frame=some L)(hs:s.heap=h')(SO:bh (e0::af) Φ' ρ h')(I:Inv W Φ' ρ σ h')(St:Kp X (cK (e0::af)) h h')(T:bA Φ' ρ L h h' e c)(hQ:∀cb,Inv W Φ' ρ σ cb->Kp X (cK (e0::af)) h cb->bh (e0::af) Φ' ρ cb->bA Φ' ρ L h cb e true->Q () { s with heap:=cb}):wpAny (model W.prog W.w) A (noteFrame (.ref e) env) Q E s:=by
 subst hs;obtain⟨new,fz,out,oe,vs,he,hc,hd,tb⟩:=T;unfold noteFrame;simp only[hf];induction tb with
 |none _ h1=>
  refine ak (wpAny_field he hd h1 ?_);rw[if_neg (by decide)];exact yC nG DN hf rfl SO I St new fz out he hc hd (mC.mp h1).1 hQ
 |some h1 DO yD Kl Km hT yE h3=>
  rename_i T oT ts;refine ak (wpAny_field he hd h1 ?_);rw[if_pos (show(Value.ref T != Value.none)=true from by simp)];have h3:ts[3]?=some (rawInt L)\/∃y,y≠rawInt L/\ts[3]?=some y:=by
   rcases h3 with h3|⟨_,y,h3⟩
   .exact .inl h3
   .by_cases q:y=rawInt L
    .exact .inl (q▸h3)
    .exact .inr ⟨y,q,h3⟩
  rcases h3 with h3|⟨y,hy,h3⟩
  .refine ak (wpAny_field hT yE h3 ?_);rw[if_pos (by simp)];refine aF ?_;have:=hQ s.heap I St SO ⟨new,fz,out,oe,vs,he,hc,hd,.some h1 DO yD Kl Km hT yE (.inl h3)⟩
   exact this
  .refine ak (wpAny_field hT yE h3 ?_);rw[if_neg (show¬((y==rawInt L)=true) from by simpa using hy)];refine ak (wpAny_setField hT yE (mC.mp h3).1 ?_);have rW:=Heap.get?_update_self (Obj.mapFields (·.setIfInBounds 3 Value.none)) hT (Obj.isFreed_of_fields (Obj.data_mapFields yE _));have other:∀b,b≠T->(s.heap.update T (Obj.mapFields (·.setIfInBounds 3 Value.none))).get? b=s.heap.get? b:=λ b hb=>Heap.get?_update_other _ _ (Ne.symm hb);have Uo:T∉cK (e0::af):=λ hm=>by
    refine pP (SO.mem hm) λ _ _ o ho Kj=>?_;haveI ho:=hT▸ho;obtain rfl:=bD ho;exact Kj ts yE
   refine yC nG DN hf rfl (Φ':=Φ') (σ:=σ) (h:=h) (X:=X) (e:=e) ?_ ?_ ?_ new fz out ((other e (Ne.symm DO)).trans he) hc hd (mC.mp h1).1 hQ
   .intro me uX;obtain⟨k,L',o,p1,p2,p3,p4,p5⟩:=SO me uX;have:L'≠T:=λ r=>Uo (r▸kx.mpr ⟨me,uX,p1⟩);exact⟨k,L',o,p1,(other L' this).trans p2,p3,p4,p5⟩
   .refine⟨I.base,λ a o q=>(other a λ r=>by rw[r,Kl] at q;cases q).trans (I.fe a o q),I.len,λ n a c h1 h2=>?_,I.nodup,I.apart⟩;exact(I.cell n a c h1 h2).mono (λ _ _ q=>q) λ o q=>(other a λ r=>Km (r▸dH h1)).trans q
   .have ne:∀a o,h.get? a=some o->a≠T:=λ a o q r=>by rw[r,yD] at q;cases q
    exact⟨λ a o q=>let⟨o',q'⟩:=St.alive a o q;⟨o',(other a (ne a o q)).trans q'⟩,λ a o hx hn q=>(other a (ne a o q)).trans (St.keep a o hx hn q),λ a o hx q=>let⟨sl,q'⟩:=St.slots a o hx q;⟨sl,(other a (ne a o q)).trans q'⟩⟩
theorem qX(fl:Option Addr)(hs:s.heap=h')(SO:bh l Φ' ρ h')(I:Inv W Φ' ρ σ h')(St:Kp X (cK l) h h')(T:bA Φ' ρ L h h' e true)(hQ:∀cb,Inv W Φ' ρ σ cb->Kp X (cK l) h cb->bh l Φ' ρ cb->(∀L',bA Φ' ρ L' h cb e false)->(fl=some L->bA Φ' ρ L h cb e true)->Q () { s with heap:=cb}):wpAny (model W.prog W.w) A (setFlight (.ref e) fl) Q E s:=by
 subst hs;obtain⟨new,fz,out,oe,vs,he,hc,hd,tb⟩:=T;induction tb with
 |none q _=>cases q
 |some h1 DO yD Kl Km hT yE h3=>
  rename_i T oT ts;have RO:3<ts.size:=by rcases h3 with h3|⟨q,_⟩;exact(mC.mp h3).1;cases q
  unfold setFlight;refine ak (wpAny_field he hd h1 ?_);rw[if_pos (show(Value.ref T != Value.none)=true from by simp)];refine wpAny_setField hT yE RO ?_;have Uo:T∉cK l:=λ hm=>by
   refine pP (SO.mem hm) λ _ _ o ho Kj=>?_;rw[hT] at ho;cases ho;exact Kj ts yE
  generalize RP:fl.elim Value.none (λ f=>rawInt f)=mk;have rW:=Heap.get?_update_self (Obj.mapFields (·.setIfInBounds 3 mk)) hT (Obj.isFreed_of_fields (Obj.data_mapFields yE _));have other:∀b,b≠T->(s.heap.update T (Obj.mapFields (·.setIfInBounds 3 mk))).get? b=s.heap.get? b:=λ b hb=>Heap.get?_update_other _ _ (Ne.symm hb);have ne:∀a o,h.get? a=some o->a≠T:=λ a o q r=>by rw[r,yD] at q;cases q
  refine hQ _ ?_ ?_ ?_ ?_ ?_
  .refine⟨I.base,λ a o q=>(other a λ r=>by rw[r,Kl] at q;cases q).trans (I.fe a o q),I.len,λ n a c h1 h2=>?_,I.nodup,I.apart⟩;exact(I.cell n a c h1 h2).mono (λ _ _ q=>q) λ o q=>(other a λ r=>Km (r▸dH h1)).trans q
  .exact⟨λ a o q=>let⟨o',q'⟩:=St.alive a o q;⟨o',(other a (ne a o q)).trans q'⟩,λ a o hx hn q=>(other a (ne a o q)).trans (St.keep a o hx hn q),λ a o hx q=>let⟨sl,q'⟩:=St.slots a o hx q;⟨sl,(other a (ne a o q)).trans q'⟩⟩
  .intro me uX;obtain⟨k,L',o,p1,p2,p3,p4,p5⟩:=SO me uX;have:L'≠T:=λ r=>Uo (r▸kx.mpr ⟨me,uX,p1⟩);exact⟨k,L',o,p1,(other L' this).trans p2,p3,p4,p5⟩
  .intro L';exact⟨new,fz,out,oe,vs,(other e (Ne.symm DO)).trans he,hc,hd,.some h1 DO yD Kl Km rW (Obj.data_mapFields yE _) (.inr ⟨rfl,mk,by simp[RO]⟩)⟩
  .rintro rfl;have:mk=rawInt L:=RP.symm;subst this;exact⟨new,fz,out,oe,vs,(other e (Ne.symm DO)).trans he,hc,hd,.some h1 DO yD Kl Km rW (Obj.data_mapFields yE _) (.inl (by simp[RO]))⟩
theorem Gq(nG:A.frames=some (e0::af))(DN:e0.frame=some L)(hf:env.frame=some L)(hs:s.heap=h')(SO:bh (e0::af) Φ' ρ h')(I:Inv W Φ' ρ σ h')(St:Kp X (cK (e0::af)) h h')(T:bA Φ' ρ L h h' e c)(hQ:∀cb,Inv W Φ' ρ σ cb->Kp X (cK (e0::af)) h cb->bh (e0::af) Φ' ρ cb->(∀L',bA Φ' ρ L' h cb e false)->Q () { s with heap:=cb}):wpAny (model W.prog W.w) A (leaving env (.ref e)) Q E s:=by
 refine ak (sJ nG DN hf hs SO I St T λ av du wW aW DP=>?_);exact qX (s:={ s with heap:=av}) none rfl aW du wW DP λ aQ cZ fM cT yF _=>hQ aQ cZ fM cT yF
theorem Pg(nG:A.frames=some (e0::af))(DN:e0.frame=some L)(hf:env.frame=some L)(hs:s.heap=h')(SO:bh (e0::af) Φ' ρ h')(I:Inv W Φ' ρ σ h')(St:Kp X (cK (e0::af)) h h')(T:bA Φ' ρ L h h' e c)(hQ:∀cb,Inv W Φ' ρ σ cb->Kp X (cK (e0::af)) h cb->bh (e0::af) Φ' ρ cb->bA Φ' ρ L h cb e true->R (.ref e) { s with heap:=cb}):notedBy (model W.prog W.w) A env (cameBackBy (model W.prog W.w) A env R) (.ref e) s:=by
 refine sJ nG DN hf hs SO I St T λ av du wW aW DP=>?_;show wpAny _ _ _ _ _ _;have Up:=DP;obtain⟨_,_,_,oe,vs,he,_,hd,tb⟩:=Up;induction tb with
 |none q _=>exact Bool.noConfusion q
 |some h1=>
  refine ak (wpAny_field (s:={ s with heap:=av}) he hd h1 ?_);rw[if_neg (by simp)];have:=qX (s:={ s with heap:=av}) (A:=A) (E:=R) (Q:=λ _ Kn=>R (.ref e) Kn) (some L) rfl aW du wW DP λ aQ cZ fM cT _ yF=>hQ aQ cZ fM cT (yF rfl)
  refine bO (hf ..) ?_
  first
   |exact ak (aF this)
   |exact this
end
end Internal
namespace Internal
open PySem PyProof.Rows
theorem jK:sizeLine=16777216:=by decide
theorem jj:lim<=sizeLine:=by decide
noncomputable def Fz.add(Φ:Fz)(a:Addr)(o:Obj):Fz:=λ b=>if b=a then some o else Φ b
section
variable {W:Wd}{Φ:Fz}{fs ρ:List Addr}{σ:ae}{h:Heap}{s:Shared}{E Q:Value->Shared->Prop}{A:Around}{f:Nat->Option PyData}
theorem Heap.br(h:Heap):h.get? h.objs.size=none:=by
 refine cq (h.get? h.objs.size) (λ e=>?_) (λ o e=>?_)
 .rfl
 .exact absurd (eE e) (Nat.lt_irrefl _)
theorem Inv.bp(I:Inv W Φ ρ σ h)(ha:h.get? a=none):Φ a=none:=by
 refine cq (Φ a) (λ e=>?_) (λ o e=>?_)
 .rfl
 .rw[I.fe a o e] at ha;cases ha
theorem Inv.live(I:Inv W Φ ρ σ h)(ha:a∈ρ):∃o,h.get? a=some o:=by
 refine bK (List.getElem?_of_mem ha) λ n hn=>?_;have e7:n<σ.length:=by rw[←I.len];exact(gi.mp hn).1
 exact(I.cell n _ σ[n] hn (by simp[e7])).alive
theorem Inv.ext(I:Inv W Φ ρ σ h)(k:∀a o,h.get? a=some o->h'.get? a=some o):Inv W Φ ρ σ h':=
 ⟨I.base,λ a o e=>k a o (I.fe a o e),I.len,λ n a c h1 h2=>(I.cell n a c h1 h2).mono (λ _ _ q=>q) (λ o q=>k a o q),I.nodup,I.apart⟩
theorem Inv.freeze(I:Inv W Φ ρ σ h)(k:∀a o,h.get? a=some o->h'.get? a=some o)(ha:h.get? a=none)(ho:h'.get? a=some o):Inv W (Φ.add a o) ρ σ h'/\agA ρ fs Φ h (Φ.add a o) h':=by
 have l6:=I.bp ha;have ext:∀b o',Φ b=some o'->(Φ.add a o) b=some o':=λ b o' e=>by
  have:b≠a:=neN e l6;simp[Fz.add,this,e]
 refine⟨⟨λ b o' e=>ext b o' (I.base b o' e),λ b o' e=>?_,I.len,λ n b c h1 h2=>(I.cell n b c h1 h2).mono ext (λ o q=>k b o q),I.nodup,λ b hb=>?_⟩,ext,λ b o' e=>?_,.bo k⟩
 .by_cases q:b=a
  .subst q;simp[Fz.add] at e;subst e;exact ho
  .simp[Fz.add,q] at e;exact k _ _ (I.fe b o' e)
 .have:b≠a:=by rintro rfl;refine bK (I.live hb) λ o' e=>?_;rw[ha] at e;cases e
  simp[Fz.add,this,I.apart b hb]
 .have:b≠a:=neN e ha;simp[Fz.add,this]
theorem Fz.hU(Φ:Fz)(a:Addr)(o:Obj):(Φ.add a o) a=some o:=by simp[Fz.add]
theorem bY(h:Heap)(o:Obj):∀a o',h.get? a=some o'->(h.push o).get? a=some o':=λ _ _ e=>dA _ e
theorem wX(I:Inv W Φ ρ σ s.heap)(r:dF Φ vs xs)(hQ:∀Φ',Inv W Φ' ρ σ (s.heap.push (gG vs 0))->agA ρ fs Φ s.heap Φ' (s.heap.push (gG vs 0))->RD Φ' (.ref s.heap.objs.size) (.tuple xs)->Q (.ref s.heap.objs.size) { s with heap:=s.heap.push (gG vs 0)}):Q (.ref s.heap.objs.size) { s with heap:=s.heap.push (gG vs 0)}:=by
 refine dd (I.freeze (fs:=fs) (bY s.heap (gG vs 0)) (Heap.br _) (d5 s.heap (o:=gG vs 0) rfl)) λ a b=>?_;exact hQ _ a b (.tuple (Fz.hU ..) (r.mono b.ext))
theorem sL(I:Inv W Φ ρ σ s.heap)(r:dF Φ vs xs)(hQ:∀Φ',Inv W Φ' ρ σ (s.heap.push (dE vs 0))->agA ρ fs Φ s.heap Φ' (s.heap.push (dE vs 0))->RD Φ' (.ref s.heap.objs.size) (.list xs)->Q (.ref s.heap.objs.size) { s with heap:=s.heap.push (dE vs 0)}):Q (.ref s.heap.objs.size) { s with heap:=s.heap.push (dE vs 0)}:=by
 refine dd (I.freeze (fs:=fs) (bY s.heap (dE vs 0)) (Heap.br _) (d5 s.heap (o:=dE vs 0) rfl)) λ a b=>?_;exact hQ _ a b (.list (Fz.hU ..) (r.mono b.ext))
noncomputable def Gr:Cm->CmpOp
 |.eq=>.Eq | .ne=>.NotEq | .lt=>.Lt | .le=>.LtE | .gt=>.Gt | .ge=>.GtE | .is=>.Is | .rT=>.IsNot | .mem=>.In | .nZ=>.NotIn
noncomputable def Yg:T9->Operator
 |.add=>.Add | .sub=>.Sub | .mod=>.Mod | .mul=>.Mult
theorem pX(hu:A.units+1100<cLine)(h:b<=fj\/a<=fj):A.units+1+min a b<cLine:=
 eQ (ao (eB (h.elim (ao (Nat.min_le_right a b)) (ao (Nat.min_le_left a b))) _) (eB (dB (rfl:Nat.ble 1001 1100=true)) A.units)) hu
theorem Gs(hu:A.units+1100<cLine)(h:b<=fj\/a<=fj):A.units+min a b<cLine:=eQ (d7 (cU _ 1) _) (pX hu h)
theorem Cj(h:(PyData.list xs).canLay0=true):PyData.canLayAll0 xs=true:=h
theorem Ck(h:(PyData.tuple xs).canLay0=true):PyData.canLayAll0 xs=true:=h
theorem AJ(a b:Bool):isSame (.bool a) (.bool b)=pure (a==b):=by induction a<;>induction b<;>rfl
theorem Co(h:X7 y=some r):y=.none/\r=false:=by
 cases y with
 |none=>obtain rfl:=bD h;exact⟨rfl,rfl⟩
 |_=>cases h
theorem ag8(I:Inv W Φ ρ σ s.heap)(ra:RT s.heap Φ a x)(rb:RT s.heap Φ b y)(e:O8 x y=some r):isSame a b=pure r:=by
 cases x with
 |none=>
  refine bO (ra.none ..) ?_;cases y with
  |none=>obtain rfl:=bD e;rw[rb.none];rfl
  |bool b=>obtain rfl:=bD e;rw[rb.bool];rfl
  |_=>cases e
 |bool a=>
  refine bO (ra.bool ..) ?_;cases y with
  |none=>obtain rfl:=bD e;rw[rb.none];rfl
  |bool b=>obtain rfl:=bD e;rw[rb.bool];exact AJ a b
  |_=>cases e
 |list xs=>
  refine dd (Co e) λ z1 z2=>?_;obtain rfl:=z1;obtain rfl:=z2;refine bw (ra.list I.fe) λ a vs n z4 _ _=>?_;obtain rfl:=z4;refine bO (rb.none ..) ?_;rfl
 |tuple xs=>
  refine dd (Co e) λ z1 z2=>?_;obtain rfl:=z1;obtain rfl:=z2;refine bw (ra.tuple I.fe) λ a vs n z4 _ _=>?_;obtain rfl:=z4;refine bO (rb.none ..) ?_;rfl
 |_=>cases e
theorem ahh(h:rU x y=some r):∃xs,(y=.list xs\/y=.tuple xs)/\(x.depth<=fj\/PyData.depthAll xs<=fj)/\(xs.any λ y=>PyData.eqv y x)=r:=by
 cases y with
 |list xs=>exact⟨xs,.inl rfl,dr h⟩
 |tuple xs=>exact⟨xs,.inr rfl,dr h⟩
 |_=>cases h
theorem qY(I:Inv W Φ ρ σ s.heap)(hu:A.units+1100<cLine)(ra:RT s.heap Φ a x)(rb:RT s.heap Φ b y)(e:eS op x y=some r)(hQ:Q (.bool r) s):wpAny (model W.prog W.w) A (compareOp (Gr op) a b) Q E s:=by
 refine bK (ra.reads I.fe) λ as q=>?_;refine bK (rb.reads I.fe) λ bs p=>?_;induction op with
 |eq=>
  refine dd (dr e) λ hd z2=>?_;obtain rfl:=z2;exact SeqAt.compareEq_reads q p ra.lay rb.lay (Gs hu hd) hQ
 |ne=>
  refine dd (dr e) λ hd z2=>?_;obtain rfl:=z2;exact SeqAt.compareNe_reads q p ra.lay rb.lay (Gs hu hd) hQ
 |lt=>obtain⟨i,j,rfl,rfl,rfl⟩:=mL e;refine bK ra.int λ t z2=>?_;obtain rfl:=z2;refine bK rb.int λ u z2=>?_;obtain rfl:=z2;exact P.lt_int hQ
 |le=>obtain⟨i,j,rfl,rfl,rfl⟩:=mL e;refine bK ra.int λ t z2=>?_;obtain rfl:=z2;refine bK rb.int λ u z2=>?_;obtain rfl:=z2;exact P.le_int hQ
 |gt=>obtain⟨i,j,rfl,rfl,rfl⟩:=mL e;refine bK ra.int λ t z2=>?_;obtain rfl:=z2;refine bK rb.int λ u z2=>?_;obtain rfl:=z2;exact P.gt_int hQ
 |ge=>obtain⟨i,j,rfl,rfl,rfl⟩:=mL e;refine bK ra.int λ t z2=>?_;obtain rfl:=z2;refine bK rb.int λ u z2=>?_;obtain rfl:=z2;exact P.ge_int hQ
 |is=>
  show wpAny _ _ (isSame a b >>= λ c=>pure (Value.bool c)) _ _ _;refine bO (ag8 I ra rb e ..) ?_;exact ak (aF (aF hQ))
 |rT=>
  refine aI (lx e) λ c e' z3=>?_;obtain rfl:=z3;show wpAny _ _ (isSame a b >>= λ c=>pure (Value.bool (!c))) _ _ _;refine bO (ag8 I ra rb e' ..) ?_;exact ak (aF (aF hQ))
 |mem=>
  refine gp (ahh e) λ xs h hd z4=>?_;obtain rfl:=z4;rcases h with rfl|rfl
  .exact SeqAt.in_list_reads p q (Cj rb.lay) ra.lay (pX hu hd) hQ
  .exact SeqAt.in_tuple_reads p q (Ck rb.lay) ra.lay (pX hu hd) hQ
 |nZ=>
  refine aI (lx e) λ c e' z3=>?_;obtain rfl:=z3;refine gp (ahh e') λ xs h hd z4=>?_;obtain rfl:=z4;rcases h with rfl|rfl
  .exact SeqAt.notIn_list_reads p q (Cj rb.lay) ra.lay (pX hu hd) hQ
  .exact SeqAt.notIn_tuple_reads p q (Ck rb.lay) ra.lay (pX hu hd) hQ
theorem DQ(k1:PyData.strOk p=true)(k2:PyData.strOk q=true):PyData.strOk (p++q)=true:=by
 show(p.cps++q.cps).all _=true;unfold PyData.strOk at k1 k2;simp[k1,k2]
theorem Cp{p:Str}(h:p.length=0):p=⟨#[]⟩:=by
 induction p with|mk c=>exact congrArg Str.mk (Array.eq_empty_of_size_eq_zero h)
theorem yG(q:Str):(⟨#[]⟩:Str)++q=q:=by show Str.mk (#[]++q.cps)=q;rw[Array.empty_append]
theorem yH(q:Str):q++(⟨#[]⟩:Str)=q:=by show Str.mk (q.cps++#[])=q;rw[Array.append_empty]
theorem ahn(p q:Str):(p++q).length=p.length+q.length:=Array.size_append
theorem dF.rep(r:dF Φ vs xs):∀k:Nat,dF Φ (List.replicate k vs).flatten (List.replicate k xs).flatten
 |0=>.nil
 |k+1=>by rw[List.replicate_succ,List.replicate_succ,List.flatten_cons,List.flatten_cons];exact r.append (r.rep k)
theorem Ph(I:Inv W Φ ρ σ s.heap)(ra:RT s.heap Φ a x)(rb:RT s.heap Φ b y)(e:agK op x y=some r)(hQ:∀v Φ' h' k,Inv W Φ' ρ σ h'->agA ρ fs Φ s.heap Φ' h'->RD Φ' v r->Q v { s with heap:=h',toks:=k}):wpAny (model W.prog W.w) A (binaryOp (Yg op) a b) Q E s:=by
 have same:∀v k,RD Φ v r->Q v { s with toks:=k}:=λ v k q=>hQ v Φ s.heap k I (.refl ..) q;induction op with
 |add=>
  cases x with
  |int i=>
   refine aI (lx e) λ j hj z3=>?_;obtain rfl:=z3;obtain rfl:=ec hj;refine bK ra.int λ t z2=>?_;obtain rfl:=z2;refine bK rb.int λ u z2=>?_;obtain rfl:=z2;exact P.add_int (same _ _ (.int _ _))
  |str p=>
   refine aI (dR e) λ q hq e=>?_;obtain rfl:=yx hq;refine dd (dr e) λ hl z2=>?_;obtain rfl:=z2;refine aI ra.str λ t z2 k1=>?_;obtain rfl:=z2;refine aI rb.str λ u z2 k2=>?_;obtain rfl:=z2;refine P.add_str ?_;split
   .rename_i h0;obtain rfl:=Cp (beq_iff_eq.mp h0);rw[yG] at same;exact same _ s.toks (.str _ _ k2)
   .split
    .rename_i h0;obtain rfl:=Cp (beq_iff_eq.mp h0);rw[yH] at same;exact same _ s.toks (.str _ _ k1)
    .exact⟨by show(p++q).length<=sizeLine;rw[ahn];exact ao hl jj,same _ _ (.str _ _ (DQ k1 k2))⟩
  |list xs=>
   refine aI (dR e) λ ys hq e=>?_;obtain rfl:=mK hq;refine dd (dr e) λ hl z2=>?_;obtain rfl:=z2;refine bw (ra.list I.fe) λ a vs n z4 ha rs=>?_;obtain rfl:=z4;refine bw (rb.list I.fe) λ b ws m z4 hb qs=>?_;obtain rfl:=z4;refine P.add_list (n:=n) (n2:=m) ha hb ?_ (by rw[List.size_toArray,List.size_toArray,rs.length,qs.length];exact ao hl jj);have:=sL (fs:=fs) I (rs.append qs) (Q:=Q) λ Φ' I' S' R'=>hQ _ Φ' _ s.toks I' S' R'
   rw[List.append_toArray];exact this
  |tuple xs=>
   refine aI (dR e) λ ys hq e=>?_;obtain rfl:=Gb hq;refine dd (dr e) λ hl z2=>?_;obtain rfl:=z2;refine bw (ra.tuple I.fe) λ a vs n z4 ha rs=>?_;obtain rfl:=z4;refine bw (rb.tuple I.fe) λ b ws m z4 hb qs=>?_;obtain rfl:=z4;by_cases h1:vs=[]
   .subst h1;cases rs;cases rb with
     |fe rb=>
      exact concat_meets ⟨_,ha,rfl⟩ ⟨_,hb,rfl⟩ noFill_tuple_add seq_tuple_add PySem.F.slot_tuple_add PySem.F.entry_tuple_add (PySem.F.args_tuple_add_2 _ _) (tuple_addW0 a b _ _ n m none none #[] #[] (by simp)) ⟨ha,hb,same _ s.toks rb⟩
   .by_cases h2:ws=[]
    .subst h2;cases qs;rw[List.append_nil] at same;cases ra with
     |fe ra=>
      exact concat_meets ⟨_,ha,rfl⟩ ⟨_,hb,rfl⟩ noFill_tuple_add seq_tuple_add PySem.F.slot_tuple_add PySem.F.entry_tuple_add (PySem.F.args_tuple_add_2 _ _) (tuple_addW1 a b _ _ n m none none #[] #[] (by simpa using h1) (by simp)) ⟨ha,hb,same _ s.toks ra⟩
    .refine P.add_tuple (n:=n) (n2:=m) ha hb (by simpa using h1) (by simpa using h2) ?_ (by rw[List.size_toArray,List.size_toArray,rs.length,qs.length];exact ao hl jj);have:=wX (fs:=fs) I (rs.append qs) (Q:=Q) λ Φ' I' S' R'=>hQ _ Φ' _ s.toks I' S' R'
     rw[List.append_toArray];exact this
  |_=>cases e
 |sub=>
  refine aI (dR e) λ i hi e=>?_;refine aI (lx e) λ j hj z3=>?_;obtain rfl:=z3;obtain rfl:=ec hi;obtain rfl:=ec hj;refine bK ra.int λ t z2=>?_;obtain rfl:=z2;refine bK rb.int λ u z2=>?_;obtain rfl:=z2;exact P.sub_int (same _ _ (.int _ _))
 |mod=>
  refine aI (dR e) λ i hi e=>?_;refine aI (dR e) λ j hj e=>?_;obtain rfl:=ec hi;obtain rfl:=ec hj;refine dd (dr e) λ hb z2=>?_;obtain rfl:=z2;refine bK ra.int λ t z2=>?_;obtain rfl:=z2;refine bK rb.int λ u z2=>?_;obtain rfl:=z2;exact PyProof.Rows.mod_int (Int.ne_of_gt hb) (same _ _ (.int _ _))
 |mul=>
  refine aI (dR e) λ l hl e=>?_;obtain rfl:=mK hl;refine aI (dR e) λ k hk e=>?_;obtain rfl:=ec hk;refine dd (dr e) λ z1 z2=>?_;obtain⟨h1,h0,Pj⟩:=z1;obtain rfl:=z2;refine bw (ra.list I.fe) λ a vs n z4 ha rs=>?_;obtain rfl:=z4;refine bK rb.int λ u z2=>?_;obtain rfl:=z2;have hv:vs.length=1:=rs.length.trans h1;have Yh:k.toNat<=100:=by exact Int.toNat_le.mpr Pj
  refine wpAny_binaryOp_repeat_ref (T:="list") (U:="int") (by decide) ⟨_,ha,rfl⟩ (λ s'=>typeIs_int s' k u) noFill_list_mul F.fills_int_mul F.slot_int_rmul repeat_list F.slot_int_index.lookup
   (call_meets F.slot_int_rmul (typeIs_int s k u) F.entry_int_rmul (F.args_int_rmul_2 _ _) (int___rmul___int_list k u a vs.toArray n)
   ⟨ha,rfl,⟨_,ha,rfl⟩,call_meets F.slot_list_mul ⟨_,ha,rfl⟩ F.entry_list_mul (F.args_list_mul_2 _ _)
    (AutoListH.list___mul___list_int_3 a vs.toArray n k u (by simp[Builtin.List.listFitsIndex];(apply And.intro<;>(first|exact FU h0 rfl|exact FV Pj rfl))) (by rw[List.size_toArray,hv];exact Nat.not_lt.mpr (ao (bV (Nat.one_mul _)) (aj Yh rfl))) (by rw[List.size_toArray,hv];simp[Builtin.List.listTooLong,sizeLine];exact Int.le_trans Pj (by decide)))
    ⟨ha,?_⟩⟩)
  have:=sL (fs:=fs) I (rs.rep k.toNat) (Q:=Q) λ Φ' I' S' R'=>hQ _ Φ' _ s.toks I' S' R'
  rw[listMul_foldl_if];exact this
theorem let_go{Q:Unit->Shared->Prop}(ho:(∃a,o=.ref a)\/∃x t,o=.str x t)(h:Q () s):wpAny (model W.prog W.w) A (letTemporaryGo e o r) Q E s:=by
 have p:wpAny (model W.prog W.w) A (pure ():Sem Unit) Q E s:=aF h;have k:wpAny (model W.prog W.w) A (do let _ ←holding [r] (runValue (.builtin "proto.let_go" {}))) Q E s:=ak (eD (wpAny_runValue (codeAny_builtin entry_let_go (show wpAny _ _ (ret .none) _ _ s from aF (aF h)))));rcases ho with⟨a,rfl⟩|⟨x,t,rfl⟩
 .cases e with
  |Name=>exact p
  |_=>exact k
 .cases e<;>exact p
theorem mO{o i:Value}{T id:String}(ho:(∃a,o=.ref a)\/∃x t,o=.str x t)(hT:s.TypeIs o T)(hl:typeLookup (.type T) "__getitem__"=pure (some (.builtin id)))(h:wpAny (model W.prog W.w) A (getItem o i) Q E s)(hs:subscripted slice false o i=operate [o,i] (getItem o i)):wpAny (model W.prog W.w) A (subscriptTail agx slice o i) Q E s:=by
 refine ak ?_;refine bO (getitemInPython_of_ne hT.not_modules ..) ?_;refine ak (wpAny_specialOf hT hl ?_);have fin:wpAny (model W.prog W.w) A (subscripted slice false o i) (λ r dj=>wpAny (model W.prog W.w) A (letTemporaryGo agx o r >>= λ _=>pure r) Q E dj) E s:=by
  refine bO (hs ..) ?_;exact wpAny_operating (cj h (λ r dj aO=>ak (let_go ho (aF aO))) λ _ _ x=>x)
 first
  |exact aF (ak fin)
  |exact ak (aF (ak fin))
  |exact ak fin
theorem aho{r:PyData}(h:((O6 i).bind λ n=>f n)=some r):(0<=i/\i<4611686018427387904)/\f i.toNat=some r:=by
 induction i with
 |ofNat n=>
  replace h:((if n<lim then some n else none).bind λ n=>f n)=some r:=h;by_cases hl:n<lim
  .rw[if_pos hl] at h;have:lim=1048576:=rfl;exact⟨⟨Int.natCast_nonneg n,by show(n:Int)<_;exact Int.ofNat_lt.mpr (Nat.lt_trans hl (dB rfl))⟩,h⟩
  .rw[if_neg hl] at h;cases h
 |negSucc n=>cases h
theorem Pk(I:Inv W Φ ρ σ s.heap){a b:Value}{x y r:PyData}(ra:RT s.heap Φ a x)(rb:RT s.heap Φ b y)(e:dD x y=some r)(hs:∀o i,subscripted slice false o i=operate [o,i] (getItem o i))(hQ:∀v k,RD Φ v r->Q v { s with toks:=k}):wpAny (model W.prog W.w) A (subscriptTail agx slice a b) Q E s:=by
 refine aI (dR e) λ i hi e=>?_;obtain rfl:=ec hi;refine dd (aho (f:=λ n=>atD n x) e) λ z1 e=>?_;obtain⟨h0,h1⟩:=z1;refine bK rb.int λ u z2=>?_;obtain rfl:=z2;cases x with
 |str x=>
  refine aI ra.str λ t z2 k1=>?_;obtain rfl:=z2;refine aI (lx e) λ c hc z3=>?_;obtain rfl:=z3;have e7:i.toNat<x.cps.size:=(mC.mp hc).1;refine mO (.inr ⟨_,_,rfl⟩) (typeIs_str s x t) PySem.F.slot_str_getitem.lookup (P.getItem_str (c:=c) ?_ ?_ (hQ _ _ (.str _ _ ?_))) (hs _ _)
  .simp;(apply And.intro<;>(first|exact FU h0 rfl|exact FW h1 rfl))
  .have hx:x.length=x.cps.size:=rfl;rw[seqIndex_of h0 (by rw[hx];exact(Int.toNat_lt h0).mp e7)];simpa using hc
  .unfold PyData.strOk at k1 ⊢;have:=Array.all_eq_true.mp k1 i.toNat e7
   refine bK (mC.mp hc) λ h2 h3=>?_;rw[h3] at this;simpa using this
 |list xs=>
  refine bw (ra.list I.fe) λ a vs n z4 ha rs=>?_;obtain rfl:=z4;refine aI (rs.get e) λ v hv rv=>?_;exact mO (.inl ⟨_,rfl⟩) ⟨_,ha,rfl⟩ slot_list_getitem.lookup (wpAny_getItem_list ⟨_,ha,rfl,n,rfl⟩ h0 (by exact FW h1 rfl) (by simpa using hv) (hQ v s.toks rv)) (hs _ _)
 |tuple xs=>
  refine bw (ra.tuple I.fe) λ a vs n z4 ha rs=>?_;obtain rfl:=z4;refine aI (rs.get e) λ v hv rv=>?_;have e7:i.toNat<vs.length:=(gi.mp hv).1;refine mO (.inl ⟨_,rfl⟩) ⟨_,ha,rfl⟩ slot_tuple_getitem.lookup (P.getItem_tuple (n:=n) (k:=i.toNat) ha (by exact FU h0 rfl) (by exact FW h1 rfl) ?_ (by simpa using hv) (hQ v s.toks rv)) (hs _ _);rw[List.size_toArray];exact seqIndex_of h0 (by exact(Int.toNat_lt h0).mp e7)
 |_=>cases e
end
def au(W:Wd)(l:List Env)(L:Addr)(ρ:List Addr){α β:Type}(P:(α->Shared->Prop)->(Value->Shared->Prop)->Shared->Prop)(Φ:Fz)(s:Shared)(R:Res β)(Rel:Fz->α->β->Prop):Prop:=
 ∀(Q:α->Shared->Prop) (E:Value->Shared->Prop),R≠.stuck ->
  (∀a b aM Φ' h' k,R=.ok b aM->Inv W Φ' ρ aM h'->agA ρ (cK l) Φ s.heap Φ' h'->Rel Φ' a b->Q a { s with heap:=h',toks:=k}) ->
  (∀e aM Φ' h' k,R=.err aM->Inv W Φ' ρ aM h'->agA ρ (cK l) Φ s.heap Φ' h'->bA Φ' ρ L s.heap h' e false->E (.ref e) { s with heap:=h',toks:=k}) ->
  P Q E s
abbrev pY(W:Wd)(A:Around)(l:List Env)(L:Addr)(ρ:List Addr){α β:Type}(t:Sem α)(Φ:Fz)(s:Shared)(R:Res β)(Rel:Fz->α->β->Prop):Prop:=
 au W l L ρ (λ Q E s=>wpAny (model W.prog W.w) A t Q E s) Φ s R Rel
section
variable {W:Wd}{l:List Env}{L:Addr}{ρ:List Addr}{α β γ δ:Type}{Φ:Fz}
theorem au.of{s:Shared}{P P':(α->Shared->Prop)->(Value->Shared->Prop)->Shared->Prop}{Rel:Fz->α->β->Prop}(hP:∀Q E,P' Q E s->P Q E s)(H:au W l L ρ P' Φ s R Rel):au W l L ρ P Φ s R Rel:=
 λ Q E cG fg fk=>hP Q E (H Q E cG fg fk)
theorem au.seq{A:Around}{P2:α->(γ->Shared->Prop)->(Value->Shared->Prop)->Shared->Prop}{Rel:Fz->α->β->Prop}{Uq:Fz->γ->δ->Prop}(H:pY W A l L ρ t Φ s R Rel)(H2:∀a b aM Φ' h' k,R=.ok b aM->Inv W Φ' ρ aM h'->agA ρ (cK l) Φ s.heap Φ' h'->Rel Φ' a b->au W l L ρ (P2 a) Φ' { s with heap:=h',toks:=k} (g b aM) Uq):au W l L ρ (λ Q E s=>wpAny (model W.prog W.w) A t (λ a s'=>P2 a Q E s') E s) Φ s (R.bind g) Uq:=by
 intro Q E cG fg fk;refine H _ _ (λ q=>cG (by rw[q];rfl)) (λ a b aM Φ' h' k e I S r=>?_) λ x aM Φ' h' k e I S T=>fk x aM Φ' h' k (by rw[e];rfl) I S T;subst e;refine H2 a b aM Φ' h' k rfl I S r Q E cG (λ a' b' dS cW cb k' e' I' S' r'=>fg a' b' dS cW cb k' e' I' (S.trans S') r') λ x dS cW cb k' e' I' S' T'=>fk x dS cW cb k' e' I' (S.trans S') (T'.back S.kp.alive)
theorem au.opt{s:Shared}{P:(α->Shared->Prop)->(Value->Shared->Prop)->Shared->Prop}{Rel:Fz->α->β->Prop}(H:∀x,o=some x->au W l L ρ P Φ s (g x σ) Rel):au W l L ρ P Φ s ((Res.of σ o).bind g) Rel:=by
 induction o with
 |none=>intro Q E cG;exact absurd rfl cG
 |some x=>exact H x rfl
theorem au.ok{s:Shared}{P:(α->Shared->Prop)->(Value->Shared->Prop)->Shared->Prop}{Rel:Fz->α->β->Prop}(H:∀Q E,(∀a Φ' h' k,Inv W Φ' ρ σ h'->agA ρ (cK l) Φ s.heap Φ' h'->Rel Φ' a b->Q a { s with heap:=h',toks:=k})->P Q E s):au W l L ρ P Φ s (.ok b σ) Rel:=
 λ Q E _ fg _=>H Q E λ a Φ' h' k I S r=>fg a b σ Φ' h' k rfl I S r
theorem au.stuck{s:Shared}{P:(α->Shared->Prop)->(Value->Shared->Prop)->Shared->Prop}{Rel:Fz->α->β->Prop}:au W l L ρ P Φ s .stuck Rel:=
 λ _ _ h=>absurd rfl h
theorem au.ite{s:Shared}{P:(α->Shared->Prop)->(Value->Shared->Prop)->Shared->Prop}{c:Prop}[Decidable c]{Rel:Fz->α->β->Prop}(h1:c->au W l L ρ P Φ s Pl Rel)(h2:¬c->au W l L ρ P Φ s Pm Rel):au W l L ρ P Φ s (if c then Pl else Pm) Rel:=by
 split
 .exact h1 ‹_›
 .exact h2 ‹_›
inductive Holds(h:Heap)(env:Env)(x:Str)(ov:Option Value):Prop
 |loc (hk:env.kindOf x=some .local) (m:Str->Option Value) (hm:h.Ns env.locals m) (e:m x=ov):Holds h env x ov
 |Pn (hk:env.kindOf x=some .cell) (c:Addr) (hc:env.cells.lookup x=some c) (q:h.IsCell c ov):Holds h env x ov
end
structure wY(Φ:Fz)(ρ:List Addr)(env:Env)(vars:List (Option Str))(fr:agq)(h:Heap):Prop where
 ns:∃m,h.Ns env.locals m
 JQ:Φ env.locals=none
 yI:env.locals∉ρ
 cell:∀x c,env.cells.lookup x=some c->(∃ov,h.IsCell c ov)/\Φ c=none/\c∉ρ/\c≠env.locals
 inj:∀x y c,env.cells.lookup x=some c->env.cells.lookup y=some c->x=y
 val:∀(i:Nat) (x:Str),vars[i]?=some (some x)->∃ov,Holds h env x ov/\∀v,fr[i]?=some (some v)->∃u,ov=some u/\VR Φ ρ u v
 nodup:∀(i j:Nat) (x:Str),vars[i]?=some (some x)->vars[j]?=some (some x)->i=j
 len:fr.length=vars.length
theorem jk{h h':Heap}(hn:h.Ns a m)(k:∀o,h.get? a=some o->∃sl,h'.get? a=some { o with slots:=sl}):h'.Ns a m:=by
 obtain⟨o,es,ep,ho,hd,r⟩:=hn;refine bK (k o ho) λ sl e=>?_;exact⟨_,es,ep,e,hd,r⟩
theorem tw{h h':Heap}(hn:h.IsCell a v)(k:∀o,h.get? a=some o->∃sl,h'.get? a=some { o with slots:=sl}):h'.IsCell a v:=by
 obtain⟨o,ho,hd⟩:=hn;refine bK (k o ho) λ sl e=>?_;exact⟨_,e,hd⟩
theorem wY.kp{Φ Φ':Fz}{ρ:List Addr}{env:Env}(F:wY Φ ρ env vars fr h)(oQ:∀a o,Φ a=some o->Φ' a=some o)(Gu:∀a o,h.get? a=some o->Φ' a=Φ a)(k:∀a,(a=env.locals\/∃x,env.cells.lookup x=some a)->∀o,h.get? a=some o->∃sl,h'.get? a=some { o with slots:=sl}):wY Φ' ρ env vars fr h':=by
 refine bK F.ns λ m hm=>?_;have hL:∃o,h.get? env.locals=some o:=by obtain⟨o,_,_,e,_⟩:=hm;exact⟨o,e⟩
 refine⟨⟨m,jk hm (k _ (.inl rfl))⟩,?_,F.yI,λ x c hc=>?_,F.inj,λ i x hx=>?_,F.nodup,F.len⟩
 .refine bK hL λ o e=>?_;rw[Gu _ o e];exact F.JQ
 .refine oM (F.cell x c hc) λ z1 h1 h2 h3=>?_;obtain⟨ov,q⟩:=z1;have q':=q;obtain⟨o,ho,_⟩:=q';exact⟨⟨ov,tw q (k c (.inr ⟨x,hc⟩))⟩,(Gu c o ho).trans h1,h2,h3⟩
 .refine aI (F.val i x hx) λ ov hv hr=>?_;refine⟨ov,?_,λ v q=>let⟨u,e,r⟩:=hr v q;⟨u,e,r.mono oQ⟩⟩;rcases hv with⟨hk,m',sA,e⟩|⟨hk,c,hc,q⟩
  .exact .loc hk m' (jk sA (k _ (.inl rfl))) e
  .exact .Pn hk c hc (tw q (k c (.inr ⟨x,hc⟩)))
structure Dy(W:Wd)(Φ:Fz)(ρ:List Addr)(σ:ae)(l:List Env)(env:Env)(vars:List (Option Str))(fr:agq)(h:Heap):Prop where
 inv:Inv W Φ ρ σ h
 pZ:bh l Φ ρ h
 eC:wY Φ ρ env vars fr h
theorem Dy.step(D:Dy W Φ ρ σ l env vars fr h)(S:agA ρ (cK l) Φ h Φ' h')(I:Inv W Φ' ρ aM h'):Dy W Φ' ρ aM l env vars fr h':=by
 refine⟨I,D.pZ.step S,D.eC.kp S.ext S.fresh λ a ha o e=>S.kp.slots a o ?_ e⟩;rcases ha with rfl|⟨x,hx⟩
 .exact D.eC.yI
 .exact(D.eC.cell x a hx).2.2.1
structure Sc where
 names:List (Str×NameKind)
 vars:List (Option Str)
structure Cx(W:Wd)(n:Nat)(A:Around)(e0:Env)(af:List Env)(L:Addr)(env:Env)(sc:Sc):Prop where
 frames:A.frames=some (e0::af)
 f0:e0.frame=some L
 f:env.frame=some L
 handled:A.handled=none
 depth:A.depth+n<recursionLimit
 units:A.units+3 * n+1100<cLine
 kind:env.scope.kind=.function
 glob:env.globals=mainGlobals
 blt:env.builtins=builtinsNs
 names:env.scope.names=sc.names
structure Cs(env:Env)(sc:Sc):Prop where
 kind:env.scope.kind=.function
 glob:env.globals=mainGlobals
 blt:env.builtins=builtinsNs
 names:env.scope.names=sc.names
theorem Cx.cs(cx:Cx W n A e0 af L env sc):Cs env sc:=⟨cx.kind,cx.glob,cx.blt,cx.names⟩
structure agY(W:Wd):Prop where
 g:W.h₀.Ns mainGlobals W.mg
 b:W.h₀.Ns builtinsNs W.mb
 nolimit:W.h₀.NoLimit
 sys:∃o,W.h₀.get? sysModules=some o
 glob:∀(i:Nat) (x:Str) (d:PyData),W.GN[i]?=some x->W.G[i]?=some d->∃v,W.mg x=some v/\∀Φ:Fz,(∀a o,W.h₀.get? a=some o->Φ a=some o)->RD Φ v d
 len:W.mg "len"=none/\W.mb "len"=some (.builtin "len")
 list:W.mg "list"=none/\W.mb "list"=some (.type "list")
 tuple:W.mg "tuple"=none/\W.mb "tuple"=some (.type "tuple")
 set:W.mg "set"=none/\W.mb "set"=some (.type "set")
 zip:W.mg "zip"=none/\W.mb "zip"=some (.type "zip")
 range:W.mg "range"=none/\W.mb "range"=some (.type "range")
 jm:W.mg "ValueError"=none/\W.mb "ValueError"=some (.type "ValueError")
section
variable {W:Wd}{i n:Nat}{A:Around}{e0:Env}{af:List Env}{L:Addr}{sc:Sc}{E Q:Value->Shared->Prop}{s:Shared}{Φ:Fz}{ρ:List Addr}{σ:ae}{fr:agq}{X:Addr->Prop}
theorem p8{env:Env}(cx:Cx W n A e0 af L env sc)(D:Dy W Φ ρ σ (e0::af) env sc.vars fr s.heap)(hx:sc.vars[i]?=some (some x))(hv:fr[i]?=some (some v))(hQ:∀u,VR Φ ρ u v->Q u s):wpAny (model W.prog W.w) A (loadName env x) Q E s:=by
 refine aI (D.eC.val i x hx) λ ov hh hr=>?_;refine aI (hr v hv) λ u z2 r=>?_;obtain rfl:=z2;rcases hh with⟨hk,m,hm,e⟩|⟨hk,c,hc,q⟩
 .exact wpAny_loadName_local cx.kind hk hm e (hQ u r)
 .exact wpAny_loadName_cell cx.kind hk hc q (hQ u r)
def own(env:Env)(a:Addr):Prop:=a=env.locals\/∃x,env.cells.lookup x=some a
theorem vD{env:Env}(cx:Cs env sc)(D:Dy W Φ ρ σ (e0::af) env sc.vars fr s.heap)(hx:sc.vars[i]?=some (some x))(hu:∀v,o=some v->VR Φ ρ u v)(Ur:env.kindOf x=some .local->X env.locals)(Us:∀c,env.kindOf x=some .cell->env.cells.lookup x=some c->X c){Q:Unit->Shared->Prop}(hQ:∀h' k,Dy W Φ ρ σ (e0::af) env sc.vars (fr.set i o) h'->Kp X (cK (e0::af)) s.heap h'->Holds h' env x (some u)->Q () { s with heap:=h',toks:=k}):wpAny (model W.prog W.w) A (storeName env x u) Q E s:=by
 refine aI (D.eC.val i x hx) λ ov hh hr=>?_;have Ko:∀j w,(fr.set i o)[j]?=some (some w)->(j=i/\o=some w)\/(j≠i/\fr[j]?=some (some w)):=λ j w q=>by
  by_cases hj:j=i
  .subst hj;rw[List.getElem?_set_self'] at q;refine cq (fr[j]?) (λ hq=>?_) (λ z hq=>?_)
   .rw[hq] at q;cases q
   .rw[hq] at q;simp at q;exact .inl ⟨rfl,q⟩
  .rw[List.getElem?_set_ne (Ne.symm hj)] at q;exact .inr ⟨hj,q⟩
 -- acV Gv RQ Gv on
 have agv:∀(T:Addr) (h':Heap),own env T->X T->Heap.SameBut T s.heap h'->(∃o,h'.get? T=some o/\∀vs,o.data≠.fields vs)->(∃oT,s.heap.get? T=some oT) ->
   Inv W Φ ρ σ h'/\bh (e0::af) Φ ρ h'/\Kp X (cK (e0::af)) s.heap h':=λ T h' hT hXT hs hl ⟨oT,hoT⟩=>by
  have Yi:Φ T=none:=by rcases hT with rfl|⟨y,hy⟩;exact D.eC.JQ;exact(D.eC.cell y T hy).2.1
  have Yj:T∉ρ:=by rcases hT with rfl|⟨y,hy⟩;exact D.eC.yI;exact(D.eC.cell y T hy).2.2.1
  refine⟨⟨D.inv.base,λ a o e=>(hs.2 a λ q=>by rw[q,Yi] at e;cases e).trans (D.inv.fe a o e),D.inv.len,λ k a c h1 h2=>?_,D.inv.nodup,D.inv.apart⟩,λ me uX=>?_,?_⟩
  .exact(D.inv.cell k a c h1 h2).mono (λ _ _ q=>q) λ o q=>(hs.2 a λ r=>Yj (r▸dH h1)).trans q
  .obtain⟨k,L',o,p1,p2,p3,p4,p5⟩:=D.pZ me uX;by_cases q:L'=T
   .subst q;refine aI hl λ o' e' vE=>?_;exact⟨k,L',o',p1,e',vE,p4,p5⟩
   .exact⟨k,L',o,p1,(hs.2 L' q).trans p2,p3,p4,p5⟩
  .exact .sameBut hs (.inl hXT) (let⟨o,e,_⟩:=hl;⟨o,e⟩)
 rcases hh with⟨hk,m,hm,e⟩|⟨hk,c,hc,q⟩
 .refine wpAny_storeName_local hk hm (λ h' Po lC=>?_) (by rw[cx.kind];rfl);have oC:∃o,h'.get? env.locals=some o/\∀vs,o.data≠.fields vs:=by obtain⟨o,_,_,e,hd,_⟩:=Po;exact⟨o,e,λ vs q=>by rw[hd] at q;cases q⟩
  refine tc (agv env.locals h' (.inl rfl) (Ur hk) lC oC (by obtain⟨o,_,_,e,_⟩:=hm;exact⟨o,e⟩)) λ a1 a2 a3=>?_;refine hQ h' _ ⟨a1,a2,⟨⟨_,Po⟩,D.eC.JQ,D.eC.yI,λ y c hy=>?_,D.eC.inj,λ j y hy=>?_,D.eC.nodup,by rw[List.length_set];exact D.eC.len⟩⟩ a3 (.loc hk _ Po (by simp))
  .refine oM (D.eC.cell y c hy) λ z1 h1 h2 h3=>?_;obtain⟨Pp,q'⟩:=z1;exact⟨⟨Pp,q'.sameBut lC h3⟩,h1,h2,h3⟩
  .refine aI (D.eC.val j y hy) λ Pp Az Gw=>?_;by_cases hj:j=i
   .subst hj;rw[hx] at hy;cases hy;refine⟨some u,.loc hk _ Po (by simp),λ w qw=>?_⟩;rcases Ko j w qw with⟨_,ow⟩|⟨eZ,_⟩
    .exact⟨u,rfl,hu w ow⟩
    .exact absurd rfl eZ
   .have Yk:y≠x:=λ r=>hj (D.eC.nodup j i x (r▸hy) hx);refine⟨Pp,?_,λ w qw=>?_⟩
    .rcases Az with⟨l7,m',sA,e'⟩|⟨l7,c',JR,q'⟩
     .have Pq:∀z,m' z=m z:=λ z=>by
       obtain⟨o1,es1,ep1,g1,d1,_,f1⟩:=sA;obtain⟨o2,es2,ep2,g2,d2,_,f2⟩:=hm;rw[g1] at g2;cases g2;rw[d1] at d2;cases d2;rw[←f1 z,←f2 z]
      exact .loc l7 _ Po (by simp[Yk,←Pq,e'])
     .exact .Pn l7 c' JR (q'.sameBut lC (D.eC.cell y c' JR).2.2.2)
    .rcases Ko j w qw with⟨r,_⟩|⟨_,Yl⟩
     .exact absurd r hj
     .exact Gw w Yl
 .refine wpAny_storeName_cell cx.kind hk hc q λ h' JR lC=>?_;have oC:∃o,h'.get? c=some o/\∀vs,o.data≠.fields vs:=by obtain⟨o,e,hd⟩:=JR;exact⟨o,e,λ vs q=>by rw[hd] at q;cases q⟩
  refine tc (agv c h' (.inr ⟨x,hc⟩) (Us c hk hc) lC oC (by obtain⟨o,e,_⟩:=q;exact⟨o,e⟩)) λ a1 a2 a3=>?_;have hcL:=(D.eC.cell x c hc).2.2.2;refine bK D.eC.ns λ m hm=>?_;have:=hQ h' s.toks ⟨a1,a2,⟨⟨m,hm.sameBut lC (Ne.symm hcL)⟩,D.eC.JQ,D.eC.yI,λ y c' hy=>?_,D.eC.inj,λ j y hy=>?_,D.eC.nodup,by rw[List.length_set];exact D.eC.len⟩⟩ a3 (.Pn hk c hc JR)
  .exact this
  .refine oM (D.eC.cell y c' hy) λ z1 h1 h2 h3=>?_;obtain⟨Pp,q'⟩:=z1;by_cases Ut:c'=c
   .subst Ut;exact⟨⟨_,JR⟩,h1,h2,h3⟩
   .exact⟨⟨Pp,q'.sameBut lC Ut⟩,h1,h2,h3⟩
  .refine aI (D.eC.val j y hy) λ Pp Az Gw=>?_;by_cases hj:j=i
   .subst hj;rw[hx] at hy;cases hy;refine⟨some u,.Pn hk c hc JR,λ w qw=>?_⟩;rcases Ko j w qw with⟨_,ow⟩|⟨eZ,_⟩
    .exact⟨u,rfl,hu w ow⟩
    .exact absurd rfl eZ
   .have Yk:y≠x:=λ r=>hj (D.eC.nodup j i x (r▸hy) hx);refine⟨Pp,?_,λ w qw=>?_⟩
    .rcases Az with⟨l7,m',sA,e'⟩|⟨l7,c',Uu,q'⟩
     .exact .loc l7 m' (sA.sameBut lC (Ne.symm hcL)) e'
     .exact .Pn l7 c' Uu (q'.sameBut lC λ r=>Yk (D.eC.inj y x c (r▸Uu) hc))
    .rcases Ko j w qw with⟨r,_⟩|⟨_,Yl⟩
     .exact absurd r hj
     .exact Gw w Yl
theorem vF{env:Env}(cx:Cs env sc)(D:Dy W Φ ρ σ (e0::af) env sc.vars fr s.heap)(hx:sc.vars[i]?=some (some x))(hu:VR Φ ρ u v)(Ur:env.kindOf x=some .local->X env.locals)(Us:∀c,env.kindOf x=some .cell->env.cells.lookup x=some c->X c){Q:Unit->Shared->Prop}(hQ:∀h' k,Dy W Φ ρ σ (e0::af) env sc.vars (fr.set i (some v)) h'->Kp X (cK (e0::af)) s.heap h'->Q () { s with heap:=h',toks:=k}):wpAny (model W.prog W.w) A (storeName env x u) Q E s:=
 vD cx D hx (λ w e=>by obtain rfl:=bD e;exact hu) Ur Us λ h' k d K _=>hQ h' k d K
theorem Gx{env:Env}(cx:Cx W n A e0 af L env sc)(D:Dy W Φ ρ σ (e0::af) env sc.vars fr s.heap)(hx:sc.vars[i]?=some (some x))(hu:VR Φ ρ u v)(Ur:env.kindOf x=some .local->X env.locals)(Us:∀c,env.kindOf x=some .cell->env.cells.lookup x=some c->X c){Q:Unit->Shared->Prop}(hQ:∀h' k,Dy W Φ ρ σ (e0::af) env sc.vars (fr.set i (some v)) h'->Kp X (cK (e0::af)) s.heap h'->Q () { s with heap:=h',toks:=k}):wpAny (model W.prog W.w) A (storeName env x u) Q E s:=
 vF cx.cs D hx hu Ur Us hQ
theorem vG{env:Env}(B:agY W)(cx:Cx W n A e0 af L env sc)(I:Inv W Φ ρ σ s.heap)(hk:sc.names.lookup x=some .globalImplicit)(hv:W.mg x=some v)(hd:(x==("__debug__" : Str))=false)(hQ:Q v s):wpAny (model W.prog W.w) A (eval (.Name x pos) env) Q E s:=
 Calls.Name_function_global cx.kind (by unfold Env.kindOf;rw[cx.names];exact hk) (Calls.loadGlobal_global (mg:=W.mg) (by rw[cx.glob];exact B.g.keeps I.keeps) hv hQ) hd
theorem rX{env:Env}(B:agY W)(cx:Cs env sc)(I:Inv W Φ ρ σ s.heap)(hk:sc.names.lookup x=some .globalImplicit)(hg:W.mg x=none)(hv:W.mb x=some v)(hd:(x==("__debug__" : Str))=false)(hQ:Q v s):wpAny (model W.prog W.w) A (eval (.Name x pos) env) Q E s:=
 Calls.Name_function_global cx.kind (by unfold Env.kindOf;rw[cx.names];exact hk) (Calls.loadGlobal_builtin (mg:=W.mg) (mb:=W.mb) (by rw[cx.glob];exact B.g.keeps I.keeps) hg (by rw[cx.blt];exact B.b.keeps I.keeps) hv hQ) hd
theorem eJ{env:Env}(B:agY W)(cx:Cx W n A e0 af L env sc)(I:Inv W Φ ρ σ s.heap)(hk:sc.names.lookup x=some .globalImplicit)(hg:W.mg x=none)(hv:W.mb x=some v)(hd:(x==("__debug__" : Str))=false)(hQ:Q v s):wpAny (model W.prog W.w) A (eval (.Name x pos) env) Q E s:=rX B cx.cs I hk hg hv hd hQ
end
noncomputable def Sc.isVar(sc:Sc)(i:Nat)(id:Str):Bool:=(match sc.vars[i]? with|some (some x)=>x==id|_=>false)&&!(id==("__debug__" : Str))
noncomputable def Sc.c6(sc:Sc)(id:Str):Bool:=(sc.names.lookup id==some NameKind.globalImplicit)&&!(id==("__debug__" : Str))
theorem Sc.dz{sc:Sc}{i:Nat}{id:Str}(h:sc.isVar i id=true):sc.vars[i]?=some (some id)/\(id==("__debug__" : Str))=false:=by
 unfold Sc.isVar at h;rw[dN] at h;refine⟨?_,by simpa using h.2⟩;have:=h.1
 generalize sc.vars[i]?=o at this ⊢;induction o with
 |none=>cases this
 |some o=>
  induction o with
  |none=>cases this
  |some x=>rw[beq_iff_eq.mp this]
theorem Sc.bj{sc:Sc}{id:Str}(h:sc.c6 id=true):sc.names.lookup id=some .globalImplicit/\(id==("__debug__" : Str))=false:=by
 unfold Sc.c6 at h;rw[dN] at h;exact⟨by simpa using h.1,by simpa using h.2⟩
noncomputable def NH:PyData->Bool
 |.none=>true
 |_=>false
theorem DR{x:PyData}(h:NH x=true):x=.none:=by cases x<;>first|rfl|(exact Bool.noConfusion h;done)
def Uv(c:Const)(x:PyData):Bool:=match c with
 |.none=>NH x
 |.bool a=>(Nw x).any (a==·)
 |.int a=>(mJ x).any (a==·)
 |.str a=>(O7 x).any λ b=>a==b&&PyData.strOk b
 |_=>false
theorem mP{α:Type}{o:Option α}{p:α->Bool}(h:o.any p=true):∃x,o=some x/\p x=true:=by
 induction o with
 |none=>exact Bool.noConfusion h
 |some x=>exact⟨x,rfl,h⟩
noncomputable def agB(e:Expr):Bool:=!(e.ctorIdx==22)
noncomputable def jn(e:Expr):Bool:=!(e.ctorIdx==26)
noncomputable def ef(e:Expr):Bool:=!(e.ctorIdx==7)
noncomputable def ag4(i:Nat)(l:List Str)(x:Str):Bool:=match l[i]? with
 |some y=>y==x
 |none=>false
theorem oR{i:Nat}{l:List Str}{x:Str}(h:ag4 i l x=true):l[i]?=some x:=by
 unfold ag4 at h;refine cq (l[i]?) (λ hq=>?_) (λ y hq=>?_)
 .haveI h:=hq▸h;exact Bool.noConfusion h
 .haveI h:=hq▸h;exact bO (beq_iff_eq.mp h ..) rfl
noncomputable def oS:List (Str×NameKind)->Bool
 |[]=>true
 |(n,_)::r=>(r.all λ p=>!(p.1==n))&&oS r
theorem Cq:oS ((n,u1)::r)=((r.all λ p=>!(p.1==n))&&oS r):=rfl
noncomputable def aq(sc:Sc)(aa:Scope):Sc where
 names:=aa.names.map λ(n,k)=>if(k==.free&&sc.names.lookup n==some NameKind.cell) then(n,.cell) else(n,k)
 vars:=(sc.vars.map λ o=>match o with
   |some x=>if aa.names.lookup x==some NameKind.free&&sc.names.lookup x==some NameKind.cell then some x else none
   |none=>none)++aa.names.map λ(n,k)=>if k==NameKind.local then some n else none
def fh(sc:Sc)(aa:Scope):Bool:=
 aa.kind==.function&&oS aa.names&&(aa.names.all λ(n,k)=>!(k==.cell)&&(!(k==.free) || ((sc.names.lookup n==some NameKind.cell)&&sc.vars.contains (some n))))
mutual
def c7(p:Nat->Bool):Tg->Bool
 |.var i=>p i
 |.tup ts=>mQ p ts
def mQ(p:Nat->Bool):List Tg->Bool
 |[]=>true
 |t::ts=>c7 p t&&mQ p ts
end
theorem Gy:c7 p (.var i)=(p i):=rfl
theorem Gz:c7 p (.tup ts)=(mQ p ts):=rfl
theorem Uw:mQ p (t::ts)=(c7 p t&&mQ p ts):=rfl
noncomputable def lD:Tg->Tg->Bool
 |.var i,t=>match t with
  |.var j=>!(i==j)
  |.tup _=>false
 |.tup _,_=>false
def bk(sc:Sc)(i:Nat):Bool:=match sc.vars[i]? with
 |some (some x)=>sc.names.lookup x==some NameKind.local
 |_=>false
@[elab_as_elim] def qZ {M:Expr->Type} (e:Expr) (k:∀f0 f1 f2,M (.Constant f0 f1 f2)) (n:M e):M e:=if h:e.ctorIdx=19 then Expr.Constant.elim (motive_1:=M) e h k else n
@[elab_as_elim] def fH {M:Expr->Type} (e:Expr) (k:∀f0 f1,M (.Name f0 f1)) (n:M e):M e:=if h:e.ctorIdx=23 then Expr.Name.elim (motive_1:=M) e h k else n
@[elab_as_elim] def GA {M:Expr->Type} (e:Expr) (k:∀f0 f1 f2,M (.Tuple f0 f1 f2)) (n:M e):M e:=if h:e.ctorIdx=25 then Expr.Tuple.elim (motive_1:=M) e h k else n
@[elab_as_elim] def NI {M:Expr->Type} (e:Expr) (k:∀f0 f1,M (.List f0 f1)) (n:M e):M e:=if h:e.ctorIdx=24 then Expr.List.elim (motive_1:=M) e h k else n
@[elab_as_elim] def jo {M:Expr->Type} (e:Expr) (k:∀f0 f1 f2,M (.Subscript f0 f1 f2)) (n:M e):M e:=if h:e.ctorIdx=21 then Expr.Subscript.elim (motive_1:=M) e h k else n
@[elab_as_elim] def tx {M:Expr->Type} (e:Expr) (k:∀f0 f1 f2 f3,M (.Compare f0 f1 f2 f3)) (n:M e):M e:=if h:e.ctorIdx=15 then Expr.Compare.elim (motive_1:=M) e h k else n
@[elab_as_elim] def Cr {M:Expr->Type} (e:Expr) (k:∀f0 f1 f2,M (.BoolOp f0 f1 f2)) (n:M e):M e:=if h:e.ctorIdx=0 then Expr.BoolOp.elim (motive_1:=M) e h k else n
@[elab_as_elim] def yJ {M:Expr->Type} (e:Expr) (k:∀f0 f1 f2,M (.UnaryOp f0 f1 f2)) (n:M e):M e:=if h:e.ctorIdx=3 then Expr.UnaryOp.elim (motive_1:=M) e h k else n
@[elab_as_elim] def Pt {M:Expr->Type} (e:Expr) (k:∀f0 f1 f2 f3,M (.BinOp f0 f1 f2 f3)) (n:M e):M e:=if h:e.ctorIdx=2 then Expr.BinOp.elim (motive_1:=M) e h k else n
@[elab_as_elim] def p9 {M:Expr->Type} (e:Expr) (k:∀f0 f1 f2 f3,M (.Call f0 f1 f2 f3)) (n:M e):M e:=if h:e.ctorIdx=16 then Expr.Call.elim (motive_1:=M) e h k else n
@[elab_as_elim] def nH {M:Expr->Type} (e:Expr) (k:∀f0 f1 f2 f3,M (.ListComp f0 f1 f2 f3)) (n:M e):M e:=if h:e.ctorIdx=8 then Expr.ListComp.elim (motive_1:=M) e h k else n
@[elab_as_elim] def Pu {M:Expr->Type} (e:Expr) (k:∀f0 f1 f2 f3,M (.Slice f0 f1 f2 f3)) (n:M e):M e:=if h:e.ctorIdx=26 then Expr.Slice.elim (motive_1:=M) e h k else n
@[elab_as_elim] def NJ {M:Expr->Type} (e:Expr) (k:∀f0 f1 f2,M (.Dict f0 f1 f2)) (n:M e):M e:=if h:e.ctorIdx=6 then Expr.Dict.elim (motive_1:=M) e h k else n
@[elab_as_elim] def AK {M:Expr->Type} (e:Expr) (k:∀f0 f1 f2,M (.Attribute f0 f1 f2)) (n:M e):M e:=if h:e.ctorIdx=20 then Expr.Attribute.elim (motive_1:=M) e h k else n
@[elab_as_elim] def iP {M:Stmt->Type} (e:Stmt) (k:∀f0 f1 f2,M (.Assign f0 f1 f2)) (n:M e):M e:=if h:e.ctorIdx=5 then Stmt.Assign.elim (motive_2:=M) e h k else n
@[elab_as_elim] def NK {M:Stmt->Type} (e:Stmt) (k:∀f0 f1,M (.Expr f0 f1)) (n:M e):M e:=if h:e.ctorIdx=24 then Stmt.Expr.elim (motive_2:=M) e h k else n
@[elab_as_elim] def sIf {M:Stmt->Type} (e:Stmt) (k:∀f0 f1 f2 f3,M (.If f0 f1 f2 f3)) (n:M e):M e:=if h:e.ctorIdx=12 then Stmt.If.elim (motive_2:=M) e h k else n
@[elab_as_elim] def Pw {M:Stmt->Type} (e:Stmt) (k:∀f0 f1 f2 f3,M (.While f0 f1 f2 f3)) (n:M e):M e:=if h:e.ctorIdx=11 then Stmt.While.elim (motive_2:=M) e h k else n
@[elab_as_elim] def Ux {M:Stmt->Type} (e:Stmt) (k:∀f0 f1 f2 f3 f4,M (.For f0 f1 f2 f3 f4)) (n:M e):M e:=if h:e.ctorIdx=9 then Stmt.For.elim (motive_2:=M) e h k else n
@[elab_as_elim] def Kr {M:Stmt->Type} (e:Stmt) (k:∀f0 f1,M (.Return f0 f1)) (n:M e):M e:=if h:e.ctorIdx=3 then Stmt.Return.elim (motive_2:=M) e h k else n
@[elab_as_elim] def Px {M:Stmt->Type} (e:Stmt) (k:∀f0 f1 f2,M (.Raise f0 f1 f2)) (n:M e):M e:=if h:e.ctorIdx=16 then Stmt.Raise.elim (motive_2:=M) e h k else n
@[elab_as_elim] def Ym {M:Stmt->Type} (e:Stmt) (k:∀f0 f1 f2 f3 f4,M (.Try f0 f1 f2 f3 f4)) (n:M e):M e:=if h:e.ctorIdx=17 then Stmt.Try.elim (motive_2:=M) e h k else n
@[elab_as_elim] def Yn {M:BoolOp->Type} (e:BoolOp) (k:M .And) (n:M e):M e:=if h:e.ctorIdx=BoolOp.And.ctorIdx then BoolOp.And.elim (motive:=M) e h k else n
@[elab_as_elim] def cOr {M:BoolOp->Type} (e:BoolOp) (k:M .Or) (n:M e):M e:=if h:e.ctorIdx=BoolOp.Or.ctorIdx then BoolOp.Or.elim (motive:=M) e h k else n
@[elab_as_elim] def Yo {M:UnaryOp->Type} (e:UnaryOp) (k:M .Not) (n:M e):M e:=if h:e.ctorIdx=UnaryOp.Not.ctorIdx then UnaryOp.Not.elim (motive:=M) e h k else n
@[elab_as_elim] def Uy {M:UnaryOp->Type} (e:UnaryOp) (k:M .USub) (n:M e):M e:=if h:e.ctorIdx=UnaryOp.USub.ctorIdx then UnaryOp.USub.elim (motive:=M) e h k else n
@[elab_as_elim] def Yp {M:CmpOp->Type} (e:CmpOp) (k:M .LtE) (n:M e):M e:=if h:e.ctorIdx=CmpOp.LtE.ctorIdx then CmpOp.LtE.elim (motive:=M) e h k else n
@[elab_as_elim] def cLt {M:CmpOp->Type} (e:CmpOp) (k:M .Lt) (n:M e):M e:=if h:e.ctorIdx=CmpOp.Lt.ctorIdx then CmpOp.Lt.elim (motive:=M) e h k else n
@[elab_as_elim] def cStr {M:Const->Type} (e:Const) (k:∀f,M (.str f)) (n:M e):M e:=if h:e.ctorIdx=(Const.str ("" : Str)).ctorIdx then Const.str.elim (motive:=M) e h k else n
@[elab_as_elim] def cCn {M:Const->Type} (e:Const) (k:M .none) (n:M e):M e:=if h:e.ctorIdx=Const.none.ctorIdx then Const.none.elim (motive:=M) e h k else n
@[elab_as_elim] def cEH {M:ExceptHandler->Type} (e:ExceptHandler) (k:∀a b c d,M (.ExceptHandler a b c d)):M e:=match e with
 |.ExceptHandler a b c d=>k a b c d
@[elab_as_elim] def AA {α:Type} {M:List α->Type} (l:List α) (k:M []) (n:M l):M l:=match l,n with
 |[],_=>k
 |_::_,n=>n
@[elab_as_elim] def sM {α:Type} {M:List α->Type} (l:List α) (k:∀a,M [a]) (n:M l):M l:=match l,n with
 |[a],_=>k a
 |[],n=>n
 |_::_::_,n=>n
@[elab_as_elim] def Yq {α:Type} {M:List α->Type} (l:List α) (k:∀a b,M [a,b]) (n:M l):M l:=match l,n with
 |[a,b],_=>k a b
 |[],n=>n
 |[_],n=>n
 |_::_::_::_,n=>n
@[elab_as_elim] def cl3 {α:Type} {M:List α->Type} (l:List α) (k:∀a b c,M [a,b,c]) (n:M l):M l:=match l,n with
 |[a,b,c],_=>k a b c
 |[],n=>n
 |[_],n=>n
 |[_,_],n=>n
 |_::_::_::_::_,n=>n
@[elab_as_elim] def Uz {α:Type} {M:Option α->Type} (l:Option α) (k:∀a,M (some a)) (n:M l):M l:=match l,n with
 |some a,_=>k a
 |none,n=>n
@[elab_as_elim] def Yr {α:Type} {M:Option α->Type} (l:Option α) (k:M none) (n:M l):M l:=match l,n with
 |none,_=>k
 |some _,n=>n
noncomputable def wZ(e:Expr):Option {x:Const // ∃k p,e=.Constant x k p}:=qZ e (λ a k p=>some ⟨a,k,p,rfl⟩) none
noncomputable def yK(e:Expr):Option {x:Str // ∃p,e=.Name x p}:=fH e (λ a p=>some ⟨a,p,rfl⟩) none
noncomputable def Ks(e:Expr):Option {x:List Expr // ∃k p,e=.Tuple x k p}:=GA e (λ a k p=>some ⟨a,k,p,rfl⟩) none
noncomputable def Ys(e:Expr):Option {x:List Expr // ∃p,e=.List x p}:=NI e (λ a p=>some ⟨a,p,rfl⟩) none
noncomputable def Yt(e:Expr):Option {x:Expr×Expr // ∃p,e=.Subscript x.1 x.2 p}:=jo e (λ a b p=>some ⟨(a,b),p,rfl⟩) none
noncomputable def UA(e:Expr):Option {x:Str×Expr // ∃q p,e=.Subscript (.Name x.1 q) x.2 p}:=jo e (λ y1 b p=>(fH y1 (λ a q=>some ⟨(a,b),q,p,rfl⟩) none)) none
noncomputable def UB(e:Expr):Option {x:Expr×CmpOp×Expr // ∃p,e=.Compare x.1 [x.2.1] [x.2.2] p}:=tx e (λ a y1 y2 p=>(sM y1 (λ b=>(sM y2 (λ c=>some ⟨(a,b,c),p,rfl⟩) none)) none)) none
noncomputable def UC(e:Expr):Option {x:Expr×CmpOp×Str // ∃q p,e=.Compare x.1 [x.2.1] [.Name x.2.2 q] p}:=tx e (λ a y1 y2 p=>(sM y1 (λ b=>(sM y2 (λ y3=>(fH y3 (λ c q=>some ⟨(a,b,c),q,p,rfl⟩) none)) none)) none)) none
noncomputable def UD(e:Expr):Option {x:Expr×Expr×Expr // ∃p,e=.Compare x.1 [.LtE,.Lt] [x.2.1,x.2.2] p}:=tx e (λ a y1 y2 p=>(Yq y1 (λ y3 y4=>(Yp y3 ((cLt y4 ((Yq y2 (λ b c=>some ⟨(a,b,c),p,rfl⟩) none)) none)) none)) none)) none
noncomputable def Yu(e:Expr):Option {x:List Expr // ∃p,e=.BoolOp .And x p}:=Cr e (λ y1 a p=>(Yn y1 (some ⟨a,p,rfl⟩) none)) none
noncomputable def vOr(e:Expr):Option {x:List Expr // ∃p,e=.BoolOp .Or x p}:=Cr e (λ y1 a p=>(cOr y1 (some ⟨a,p,rfl⟩) none)) none
noncomputable def Yv(e:Expr):Option {x:Expr // ∃p,e=.UnaryOp .Not x p}:=yJ e (λ y1 a p=>(Yo y1 (some ⟨a,p,rfl⟩) none)) none
noncomputable def Yw(e:Expr):Option {x:Expr // ∃p,e=.UnaryOp .USub x p}:=yJ e (λ y1 a p=>(Uy y1 (some ⟨a,p,rfl⟩) none)) none
noncomputable def Yx(e:Expr):Option {x:Expr×Operator×Expr // ∃p,e=.BinOp x.1 x.2.1 x.2.2 p}:=Pt e (λ a b c p=>some ⟨(a,b,c),p,rfl⟩) none
noncomputable def Py(e:Expr):Option {x:Str×List Expr // ∃q p,e=.Call (.Name x.1 q) x.2 [] p}:=p9 e (λ y1 b y2 p=>(fH y1 (λ a q=>(AA y2 (some ⟨(a,b),q,p,rfl⟩) none)) none)) none
noncomputable def AL(e:Expr):Option {x:Str×Expr // ∃q p,e=.Call (.Name x.1 q) [x.2] [] p}:=p9 e (λ y1 y2 y3 p=>(fH y1 (λ a q=>(sM y2 (λ b=>(AA y3 (some ⟨(a,b),q,p,rfl⟩) none)) none)) none)) none
noncomputable def UE(e:Expr):Option {x:Expr×Comprehension×Scope // ∃p,e=.ListComp x.1 [x.2.1] x.2.2 p}:=nH e (λ a y1 c p=>(sM y1 (λ b=>some ⟨(a,b,c),p,rfl⟩) none)) none
noncomputable def Yy(e:Expr):Option {x:Expr×Expr×Expr // ∃q p,e=.Subscript x.1 (.Slice (some x.2.1) (some x.2.2) none q) p}:=jo e (λ a y1 p=>(Pu y1 (λ y2 y3 y4 q=>(Uz y2 (λ b=>(Uz y3 (λ c=>(Yr y4 (some ⟨(a,b,c),q,p,rfl⟩) none)) none)) none)) none)) none
noncomputable def Pz(e:Expr):Option {x:Expr×Comprehension×Comprehension×Scope // ∃p,e=.ListComp x.1 [x.2.1,x.2.2.1] x.2.2.2 p}:=nH e (λ a y1 d p=>(Yq y1 (λ b c=>some ⟨(a,b,c,d),p,rfl⟩) none)) none
noncomputable def Kt(e:Expr):Option {x:Str×Str×Expr // ∃q r t p,e=.Call (.Name x.1 q) [.Call (.Name x.2.1 r) [x.2.2] [] t] [] p}:=p9 e (λ y1 y2 y3 p=>(fH y1 (λ a q=>(sM y2 (λ y4=>(p9 y4 (λ y5 y6 y7 t=>(fH y5 (λ b r=>(sM y6 (λ c=>(AA y7 ((AA y3 (some ⟨(a,b,c),q,r,t,p,rfl⟩) none)) none)) none)) none)) none)) none)) none)) none
noncomputable def UG(e:Expr):Option {x:List (Option Expr)×List Expr×Expr // ∃q p,e=.Subscript (.Dict x.1 x.2.1 q) x.2.2 p}:=jo e (λ y1 c p=>(NJ y1 (λ a b q=>some ⟨(a,b,c),q,p,rfl⟩) none)) none
noncomputable def w4:List Str->Bool
 |[]=>true
 |k::r=>!r.contains k&&w4 r
theorem aw{α:Type}{q:α->Prop}{o:Option (Subtype q)}{p:α->Bool}(h:anyS o p=true):∃x,q x/\p x=true:=by
 unfold anyS at h;induction o with
 |none=>exact Bool.noConfusion h
 |some x=>exact⟨x.1,x.2,h⟩
def PA:List Str->List (Option Expr)->Bool
 |[],l=>l.isEmpty
 |k::r,l=>match l with
  |[]=>false
  |x::m=>(x.any λ e=>anyS (wZ e) λ c=>Uv c (.str k))&&PA r m
mutual
def mz(sc:Sc):Tg->Expr->Bool
 |.var i,e=>anyS (yK e) λ id=>sc.isVar i id
 |.tup ts,e=>anyS (Ks e) λ es=>AM sc ts es
def AM(sc:Sc):List Tg->List Expr->Bool
 |[],es=>es.isEmpty
 |t::ts,es=>match es with
  |e::r=>agB e&&mz sc t e&&AM sc ts r
  |[]=>false
end
section
variable {a b x1 JS NL RS Yz x2 x3 x4 x5 x6 x7 x8 x9:Bool}{α:Type}
theorem cf(h:(a&&b)=true):a=true/\b=true:=oy.mp h
theorem ll(h:(x1&&x2)=true):x1=true:=(cf h).1
theorem n9(h:(x1&&x2)=true):x2=true:=(cf h).2
theorem pJ(h:(x1&&(x2&&x3))=true):x2=true:=ll (n9 h)
theorem Ct(h:(x1&&(x2&&x3))=true):x3=true:=n9 (n9 h)
theorem yj(h:(x1&&(x2&&(x3&&x4)))=true):x3=true:=pJ (n9 h)
theorem RU(h:(x1&&(x2&&(x3&&x4)))=true):x4=true:=Ct (n9 h)
theorem Cu(h:(x1&&(x2&&(x3&&(x4&&x5))))=true):x4=true:=yj (n9 h)
theorem Xn(h:(x1&&(x2&&(x3&&(x4&&x5))))=true):x5=true:=RU (n9 h)
theorem JT(h:(x1&&(x2&&(x3&&(x4&&(x5&&x6)))))=true):x5=true:=Cu (n9 h)
theorem YA(h:(x1&&(x2&&(x3&&(x4&&(x5&&x6)))))=true):x6=true:=Xn (n9 h)
theorem Ku(h:(x1&&(x2&&(x3&&(x4&&(x5&&(x6&&x7))))))=true):x6=true:=JT (n9 h)
theorem tl6(h:(x1&&(x2&&(x3&&(x4&&(x5&&(x6&&x7))))))=true):x7=true:=YA (n9 h)
theorem PB(h:(x1&&(x2&&(x3&&(x4&&(x5&&(x6&&(x7&&x8)))))))=true):x7=true:=Ku (n9 h)
theorem tl7(h:(x1&&(x2&&(x3&&(x4&&(x5&&(x6&&(x7&&x8)))))))=true):x8=true:=tl6 (n9 h)
theorem Kv(h:(x1&&(x2&&(x3&&(x4&&(x5&&(x6&&(x7&&(x8&&x9))))))))=true):x8=true:=PB (n9 h)
theorem YB(h:(x1&&(x2&&(x3&&(x4&&(x5&&(x6&&(x7&&(x8&&x9))))))))=true):x9=true:=tl7 (n9 h)
theorem Xo(h:(x1&&(x2&&(x3&&(x4&&(x5&&(x6&&(x7&&(x8&&(x9&&JS)))))))))=true):x9=true:=Kv (n9 h)
theorem YC(h:(x1&&(x2&&(x3&&(x4&&(x5&&(x6&&(x7&&(x8&&(x9&&JS)))))))))=true):JS=true:=YB (n9 h)
theorem UH(h:(x1&&(x2&&(x3&&(x4&&(x5&&(x6&&(x7&&(x8&&(x9&&(JS&&NL))))))))))=true):JS=true:=Xo (n9 h)
theorem YD(h:(x1&&(x2&&(x3&&(x4&&(x5&&(x6&&(x7&&(x8&&(x9&&(JS&&NL))))))))))=true):NL=true:=YC (n9 h)
theorem UI(h:(x1&&(x2&&(x3&&(x4&&(x5&&(x6&&(x7&&(x8&&(x9&&(JS&&(NL&&RS)))))))))))=true):NL=true:=UH (n9 h)
theorem YE(h:(x1&&(x2&&(x3&&(x4&&(x5&&(x6&&(x7&&(x8&&(x9&&(JS&&(NL&&RS)))))))))))=true):RS=true:=YD (n9 h)
theorem YF(h:(x1&&(x2&&(x3&&(x4&&(x5&&(x6&&(x7&&(x8&&(x9&&(JS&&(NL&&(RS&&Yz))))))))))))=true):RS=true:=UI (n9 h)
theorem YG(h:(x1&&(x2&&(x3&&(x4&&(x5&&(x6&&(x7&&(x8&&(x9&&(JS&&(NL&&(RS&&Yz))))))))))))=true):Yz=true:=YE (n9 h)
theorem bE[BEq α][LawfulBEq α]{a b:α}(h:(a==b)=true):a=b:=beq_iff_eq.mp h
theorem agX{l:List α}(h:l.isEmpty=true):l=[]:=by induction l with|nil=>rfl|cons=>exact Bool.noConfusion h
end
mutual
def lr(GN FN:List Str)(sc:Sc):E->Expr->Bool
 |.con x,e=>anyS (wZ e) λ c=>Uv c x
 |.var i,e=>anyS (yK e) λ id=>sc.isVar i id
 |.glob g,e=>anyS (yK e) λ id=>sc.c6 id&&ag4 g GN id
 |.tup xs,e=>anyS (Ks e) λ es=>decide (xs.length<=1000)&&kb GN FN sc xs es
 |.lst xs,e=>anyS (Ys e) λ es=>decide (xs.length<=1000)&&kb GN FN sc xs es
 |.idx a i,e=>anyS (Yt e) λ q=>jn q.2&&(lr GN FN sc a q.1&&lr GN FN sc i q.2)
 |.Fs a lo hi,e=>anyS (Yy e) λ q=>(anyS (wZ q.2.1) λ c=>Uv c (.int lo))&&((anyS (wZ q.2.2) λ c=>Uv c (.int hi))&&lr GN FN sc a q.1)
 |.cmp op a b,e=>anyS (UB e) λ q=>(q.2.1==Gr op)&&(!behindInMarks q.2.1 q.2.2&&(lr GN FN sc a q.1&&lr GN FN sc b q.2.2))
 |.Ga a b c,e=>anyS (UD e) λ q=>lr GN FN sc a q.1&&(lr GN FN sc b q.2.1&&lr GN FN sc c q.2.2)
 |.and xs,e=>anyS (Yu e) λ q=>!xs.isEmpty&&kb GN FN sc xs q
 |.or xs,e=>anyS (vOr e) λ q=>!xs.isEmpty&&kb GN FN sc xs q
 |.not a,e=>anyS (Yv e) λ q=>lr GN FN sc a q
 |.bin op a b,e=>anyS (Yx e) λ q=>(q.2.1==Yg op)&&(lr GN FN sc a q.1&&lr GN FN sc b q.2.2)
 |.neg a,e=>anyS (Yw e) λ q=>lr GN FN sc a q
 |.call f xs,e=>anyS (Py e) λ q=>sc.c6 q.1&&(ag4 f FN q.1&&kb GN FN sc xs q.2)
 |.len a,e=>anyS (AL e) λ q=>sc.c6 q.1&&((q.1==("len" : Str))&&(agB q.2&&lr GN FN sc a q.2))
 |.l5 a,e=>anyS (AL e) λ q=>sc.c6 q.1&&((q.1==("tuple" : Str))&&(agB q.2&&lr GN FN sc a q.2))
 |.oA a,e=>anyS (AL e) λ q=>sc.c6 q.1&&((q.1==("list" : Str))&&(agB q.2&&lr GN FN sc a q.2))
 |.qW ng a i,e=>anyS (UC e) λ q=>(q.2.1==(if ng then CmpOp.NotIn else CmpOp.In))&&(sc.isVar i q.2.2&&lr GN FN sc a q.1)
 |.u0 i a,e=>anyS (UA e) λ q=>jn q.2&&(sc.isVar i q.1&&lr GN FN sc a q.2)
 |.comp n elt t it ifs,e=>anyS (UE e) λ q=>(q.2.1.is_async==0)&&((n==q.2.2.names.length)&&(fh sc q.2.2&&(ef q.2.1.iter&&(lr GN FN sc it q.2.1.iter&&(mz (aq sc q.2.2) t q.2.1.target&&(c7 (bk (aq sc q.2.2)) t&&(kb GN FN (aq sc q.2.2) ifs q.2.1.ifs&&lr GN FN (aq sc q.2.2) elt q.1)))))))
 |.fY n elt t1 qQ t2 it2,e=>anyS (Pz e) λ q=>((q.2.1.is_async==0)&&((q.2.2.1.is_async==0)&&(q.2.1.ifs.isEmpty&&q.2.2.1.ifs.isEmpty)))&&((n==q.2.2.2.names.length)&&(fh sc q.2.2.2&&((ef q.2.1.iter&&ef q.2.2.1.iter) &&
   (lr GN FN sc qQ q.2.1.iter&&(lr GN FN (aq sc q.2.2.2) it2 q.2.2.1.iter&&((mz (aq sc q.2.2.2) t1 q.2.1.target&&c7 (bk (aq sc q.2.2.2)) t1)&&((mz (aq sc q.2.2.2) t2 q.2.2.1.target&&c7 (bk (aq sc q.2.2.2)) t2)&&(lD t1 t2&&lr GN FN (aq sc q.2.2.2) elt q.1))))))))
 |.j0 a,e=>anyS (Kt e) λ q=>sc.c6 q.1&&((q.1==("len" : Str))&&(sc.c6 q.2.1&&((q.2.1==("set" : Str))&&(agB q.2.2&&lr GN FN sc a q.2.2))))
 |.pick ks vs k,e=>anyS (UG e) λ q=>jn q.2.2&&((vs.length==ks.length)&&(decide (ks.length<=4)&&(!ks.isEmpty&&(w4 ks&&(PA ks q.1&&(kb GN FN sc vs q.2.1&&lr GN FN sc k q.2.2))))))
def kb(GN FN:List Str)(sc:Sc):List E->List Expr->Bool
 |[],es=>es.isEmpty
 |x::xs,es=>match es with
  |e::r=>agB e&&lr GN FN sc x e&&kb GN FN sc xs r
  |[]=>false
end
theorem GB:kb GN FN sc ([]) es=(es.isEmpty):=rfl
theorem vH:kb GN FN sc (x::xs) es=(match es with
  |e::r=>agB e&&lr GN FN sc x e&&kb GN FN sc xs r
  |[]=>false):=rfl
section
variable {e sl:Expr}{as r:List Expr}{env:Env}{M:Model}{E Q:Value->Shared->Prop}{args:List (Bool×Sem Value)}{pos px:Pos}
theorem gY(h:agB e=true):starEach (e::r) env=(false,eval e env)::starEach r env:=by
 cases e<;>first|rfl|exact Bool.noConfusion h
theorem l8(h:agB e=true):assignEach (e::r) env=(false,assign e env)::assignEach r env:=by
 cases e<;>first|rfl|cases h
theorem gw(h:jn sl=true)(o i:Value):subscripted sl false o i=operate [o,i] (getItem o i):=by
 cases sl<;>first|rfl|exact Bool.noConfusion h
theorem dT(h:ef e=true)(x:Value):foldedSetIterable e env x=pure x:=by
 cases e<;>first|rfl|exact Bool.noConfusion h
def w5(W:Wd)(n:Nat)(C:aG):Prop:=
 ∀(f:Nat) (name:Str) (a:Addr),W.FN[f]?=some name->W.mg name=some (.ref a)->∀(A:Around) (l:List Env) (L:Addr) (ρ:List Addr) (Φ:Fz) (σ:ae) (s:Shared) (vs:List Value) (xs:List V),A.frames=some l->A.handled=none->A.depth+n<recursionLimit->A.units+3 * n+1100<cLine->Inv W Φ ρ σ s.heap->bh l Φ ρ s.heap->yB Φ ρ vs xs ->
  pY W A l L ρ (call (.ref a) vs) Φ s (C f xs σ) (λ Φ' v x=>VR Φ' ρ v x)
def w6(W:Wd):Prop:=∀(f:Nat) (name:Str),W.FN[f]?=some name->∃a o fd,W.mg name=some (.ref a)/\W.h₀.get? a=some o/\o.data=.func fd
theorem lE{A:Around}{s:Shared}{f:Value}(hp:args.all (λ p=>!p.1)=true){Q:Args->Shared->Prop}(h:wpAny M A (spliced args) (λ vs s'=>Q ⟨vs,[]⟩ s') E s):wpAny M A (evalArgs f true args []) Q E s:=by
 induction args with
 |nil=>
  show wpAny M A (spliced [] >>= _) Q E s;refine ak (cj h (λ vs s' h'=>?_) λ _ _ x=>x);refine eD ?_;exact ak (aF (ak (aF (aF h'))))
 |cons p r=>
  obtain⟨b,x⟩:=p;induction b with
  |false=>exact Calls.evalArgs_plain h
  |true=>simp at hp
theorem cX{A:Around}{s:Shared}{x:Str}(h:wpAny M A (eval (.Name x px) env) (λ v aL=>wpAny M A (callWith pos v [] (backTo pos (starEach as env)) []) Q E aL) E s):wpAny M A (eval (.Call (.Name x px) as [] pos) env) Q E s:=by
 show wpAny M A (do callWith pos (←eval (.Name x px) env) [] (backTo pos (starEach as env)) []) Q E s;exact ak h
end
section
variable {W:Wd} {n:Nat} {C:aG} {A:Around} {e0:Env} {af:List Env} {L:Addr} {env:Env} {sc:Sc} {s:Shared} {Φ:Fz} {ρ:List Addr} {σ:ae} {fr:agq}
abbrev Kw(ρ:List Addr):Fz->Value->V->Prop:=λ Φ v x=>VR Φ ρ v x
abbrev tA(ρ:List Addr):Fz->List Value->List V->Prop:=λ Φ v x=>yB Φ ρ v x
noncomputable abbrev DS:Fz->Bool->Bool->Prop:=λ _ a b=>a=b
abbrev u6(G:List PyData)(C:aG)(x:E)(fr:agq)(σ:ae):Res Bool:=(evE G C x fr σ).bind λ v σ=>Res.of σ (aP v)
def cS(W:Wd)(n:Nat)(C:aG)(sc:Sc)(x:E)(e:Expr):Prop:=
 ∀{A:Around} {e0:Env} {af:List Env} {L:Addr} {env:Env} {s:Shared} {Φ:Fz} {ρ:List Addr} {σ:ae} {fr:agq},Cx W n A e0 af L env sc->Dy W Φ ρ σ (e0::af) env sc.vars fr s.heap->pY W A (e0::af) L ρ (eval e env) Φ s (evE W.G C x fr σ) (Kw ρ)
def yk(W:Wd)(n:Nat)(C:aG)(sc:Sc)(x:E)(e:Expr):Prop:=
 ∀{A:Around} {e0:Env} {af:List Env} {L:Addr} {env:Env} {s:Shared} {Φ:Fz} {ρ:List Addr} {σ:ae} {fr:agq},Cx W n A e0 af L env sc->Dy W Φ ρ σ (e0::af) env sc.vars fr s.heap->pY W A (e0::af) L ρ (isTrue e env (eval e env)) Φ s (u6 W.G C x fr σ) DS
theorem hV(h:aP v=some b):v=.d (.bool b):=by
 induction v with
 |loc=>cases h
 |d x=>
  cases x with
  |bool c=>obtain rfl:=bD h;rfl
  |_=>cases h
theorem pY.bool(H:pY W A (e0::af) L ρ t Φ s R (Kw ρ)):au W (e0::af) L ρ (λ Q E s=>wpAny (model W.prog W.w) A t (λ v s'=>wpAny (model W.prog W.w) A (truthy v) Q E s') E s) Φ s (R.bind λ v σ=>Res.of σ (aP v)) DS:=by
 refine au.seq H λ v x aM Φ' h' k e I S r=>?_;have:Res.of aM (aP x)=(Res.of aM (aP x)).bind λ b σ=>.ok b σ:=by cases aP x<;>rfl
 refine bO (this ..) ?_;refine au.opt λ b hb=>?_;have:=hV hb
 subst this;obtain rfl:=RD.bi r;exact au.ok λ Q E h=>kB (h b Φ' h' k I (.refl ..) rfl)
theorem DT(h:cS W n C sc x e)(he:∀env whole,isTrue e env whole=(do let v ←whole;standAt e.pos;holding [v] (truthy v))):yk W n C sc x e:=
 λ cx D=>au.of (λ Q E h=>wpAny_isTrue_value h (he _ _)) (pY.bool (h cx D))
theorem w7(h:Uv c x=true):cS W n C sc (.con x) (.Constant c k pos):=by
 intro A e0 af L env s Φ ρ σ fr cx D;refine au.ok λ Q E hQ=>?_;induction c with
 |none=>haveI hQ:=(DR h)▸hQ;exact wpAny_Constant_none (hQ _ Φ _ s.toks D.inv (.refl ..) RD.none)
 |bool a=>
  refine aI (mP h) λ b h1 h2=>?_;rw[DJ h1,←beq_iff_eq.mp h2] at hQ;exact wpAny_Constant_bool (hQ _ Φ _ s.toks D.inv (.refl ..) (RD.bool _))
 |int a=>
  refine aI (mP h) λ b h1 h2=>?_;rw[ec h1,←beq_iff_eq.mp h2] at hQ;exact wpAny_Constant_int (hQ _ Φ _ _ D.inv (.refl ..) (RD.int _ _))
 |str a=>
  refine aI (mP h) λ b h1 h2=>?_;refine dd (oy.mp h2) λ h2 h3=>?_;rw[yx h1,←beq_iff_eq.mp h2] at hQ;haveI h3:=((beq_iff_eq.mp h2).symm)▸h3;exact wpAny_Constant_str (hQ _ Φ _ _ D.inv (.refl ..) (RD.str _ _ h3))
 |_=>exact Bool.noConfusion h
theorem PC{id:Str}{pos:Pos}(h:sc.isVar i id=true):cS W n C sc (.var i) (.Name id pos):=by
 intro A e0 af L env s Φ ρ σ fr cx D;refine dd (Sc.dz h) λ hv hd=>?_;show pY W A (e0::af) L ρ _ Φ s (match fr[i]? with|some (some v)=>.ok v σ|_=>.stuck) _;generalize hf:fr[i]?=o;induction o with
 |none=>exact .stuck
 |some o=>
  induction o with
  |none=>exact .stuck
  |some v=>exact au.ok λ Q E hQ=>wpAny_Name (p8 cx D hv hf λ u r=>hQ u Φ s.heap s.toks D.inv (.refl ..) r) hd
theorem Kx(B:agY W){id:Str}{pos:Pos}(h:sc.c6 id=true)(hg:ag4 g W.GN id=true):cS W n C sc (.glob g) (.Name id pos):=by
 intro A e0 af L env s Φ ρ σ fr cx D;refine dd (Sc.bj h) λ hv hd=>?_;show pY W A (e0::af) L ρ _ Φ s (match W.G[g]? with|some x=>Res.ok (V.d x) σ|none=>Res.stuck) _;generalize hf:W.G[g]?=o;induction o with
 |none=>exact .stuck
 |some x=>
  refine aI (B.glob g id x (oR hg) hf) λ v hm hr=>?_;exact au.ok λ Q E hQ=>vG B cx D.inv hv hm hd (hQ v Φ s.heap s.toks D.inv (.refl ..) (hr Φ D.inv.base))
theorem PD:∀{A:Around} {e0:Env} {af:List Env} {L:Addr} {env:Env} {s:Shared} {Φ:Fz} {ρ:List Addr} {σ:ae} {fr:agq},Dy W Φ ρ σ (e0::af) env sc.vars fr s.heap->pY W A (e0::af) L ρ (spliced (backTo pos (starEach [] env))) Φ s (fL W.G C [] fr σ) (tA ρ):=by
 intro A e0 af L env s Φ ρ σ fr D;exact au.ok λ Q E hQ=>wpAny_items_nil (hQ _ Φ _ s.toks D.inv (.refl ..) trivial)
theorem Ky(u7:agB e=true)(h:cS W n C sc x e)(hs:∀{A:Around} {e0:Env} {af:List Env} {L:Addr} {env:Env} {s:Shared} {Φ:Fz} {ρ:List Addr} {σ:ae} {fr:agq},Cx W n A e0 af L env sc->Dy W Φ ρ σ (e0::af) env sc.vars fr s.heap->pY W A (e0::af) L ρ (spliced (backTo pos (starEach es env))) Φ s (fL W.G C xs fr σ) (tA ρ)):∀{A:Around} {e0:Env} {af:List Env} {L:Addr} {env:Env} {s:Shared} {Φ:Fz} {ρ:List Addr} {σ:ae} {fr:agq},Cx W n A e0 af L env sc->Dy W Φ ρ σ (e0::af) env sc.vars fr s.heap->pY W A (e0::af) L ρ (spliced (backTo pos (starEach (e::es) env))) Φ s (fL W.G C (x::xs) fr σ) (tA ρ):=by
 intro A e0 af L env s Φ ρ σ fr cx D;refine au.of (λ Q E h=>wpAny_items_cons h (gY u7)) (au.seq (h cx D) λ v y aM Φ' h' k e' I S r=>?_);refine au.seq (hs cx (D.step S I)) λ vs ys dS cW cb k' oP I' S' r'=>?_;exact au.ok λ Q E hQ=>hQ _ cW _ k' I' (.refl ..) ⟨VR.mono S'.ext r,r'⟩
theorem jL:∀{xs:List E} {fr:agq} {σ:ae} {vs:List V} {aM:ae},fL G C xs fr σ=.ok vs aM->vs.length=xs.length
 |[],fr,σ,vs,aM,h=>by cases(show Res.ok [] σ=.ok vs aM from h);rfl
 |x::xs,fr,σ,vs,aM,h=>by
  refine gq (Res.Kd (show(evE G C x fr σ).bind _=_ from h)) λ v aX _ h=>?_;refine gq (Res.Kd h) λ ws dG h2 h=>?_;cases h;exact congrArg (·+1) (jL h2)
theorem PE(hl:xs.length<=1000)(hs:∀{A:Around} {e0:Env} {af:List Env} {L:Addr} {env:Env} {s:Shared} {Φ:Fz} {ρ:List Addr} {σ:ae} {fr:agq},Cx W n A e0 af L env sc->Dy W Φ ρ σ (e0::af) env sc.vars fr s.heap->pY W A (e0::af) L ρ (spliced (backTo pos (starEach es env))) Φ s (fL W.G C xs fr σ) (tA ρ)):cS W n C sc (.tup xs) (.Tuple es k pos):=by
 intro A e0 af L env s Φ ρ σ fr cx D;rw[Cb];refine au.of (λ Q E h=>wpAny_Tuple h) (au.seq (hs cx D) λ vs ys aM Φ' h' k e' I S r=>?_);refine au.opt λ ds hd=>au.ok λ Q E hQ=>?_;have agw:=jL e';have:=r.length
 refine⟨by rw[jK];exact FR this agw hl rfl,?_⟩;exact wX (s:={ s with heap:=h',toks:=k}) (fs:=cK (e0::af)) I (r.fQ hd) λ cW tB w8 YH=>hQ _ cW _ k tB w8 YH
theorem PF(hl:xs.length<=1000)(hs:∀{A:Around} {e0:Env} {af:List Env} {L:Addr} {env:Env} {s:Shared} {Φ:Fz} {ρ:List Addr} {σ:ae} {fr:agq},Cx W n A e0 af L env sc->Dy W Φ ρ σ (e0::af) env sc.vars fr s.heap->pY W A (e0::af) L ρ (spliced (backTo pos (starEach es env))) Φ s (fL W.G C xs fr σ) (tA ρ)):cS W n C sc (.lst xs) (.List es pos):=by
 intro A e0 af L env s Φ ρ σ fr cx D;rw[Kg];refine au.of (λ Q E h=>wpAny_List h) (au.seq (hs cx D) λ vs ys aM Φ' h' k e' I S r=>?_);refine au.opt λ ds hd=>au.ok λ Q E hQ=>?_;have agw:=jL e';have:=r.length
 refine⟨by rw[jK];exact FR this agw hl rfl,?_⟩;exact sL (s:={ s with heap:=h',toks:=k}) (fs:=cK (e0::af)) I (r.fQ hd) λ cW tB w8 YH=>hQ _ cW _ k tB w8 YH
theorem Kz(PG:jn sl=true)(ha:cS W n C sc a v)(hi:cS W n C sc i sl):cS W n C sc (.idx a i) (.Subscript v sl pos):=by
 intro A e0 af L env s Φ ρ σ fr cx D;rw[Cd];refine au.of (λ Q E h=>Subscript_ h) (au.seq (ha cx D) λ va ya aX cJ av k₁ oU du aW dY=>?_);refine au.seq (hi cx (D.step aW du)) λ vi yi dG ff aQ k₂ AN cZ cT jq=>?_;refine au.opt λ x hx=>au.opt λ y hy=>au.opt λ r hr=>au.ok λ Q E hQ=>?_;exact Pk (s:={ s with heap:=aQ,toks:=k₂}) cZ (cZ.aE (VR.mono cT.ext dY) hx) (cZ.aE jq hy) hr (gw PG) λ u k r'=>hQ u ff aQ k cZ (.refl ..) r'
theorem jr(cx:Cx W n A e0 af L env sc):A.units+1100<cLine:=by have:=cx.units;exact eQ (d7 (cU ..) _) this
theorem KA(ho:o=Gr op)(hb:behindInMarks o r=false)(ha:cS W n C sc a l)(hr:cS W n C sc b r):cS W n C sc (.cmp op a b) (.Compare l [o] [r] pos):=by
 subst ho;intro A e0 af L env s Φ ρ σ fr cx D;rw[Ce];refine au.of (λ Q E h=>wpAny_Compare1 h hb) (au.seq (ha cx D) λ va ya aX cJ av k₁ oU du aW dY=>?_);refine au.seq (hr cx (D.step aW du)) λ vi yi dG ff aQ k₂ AN cZ cT jq=>?_;refine au.opt λ x hx=>au.opt λ y hy=>au.opt λ r hr=>au.ok λ Q E hQ=>?_;refine aI (Option.map_eq_some_iff.mp hr) λ b hcb z3=>?_;obtain rfl:=z3;exact qY (s:={ s with heap:=aQ,toks:=k₂}) cZ (jr cx) (cZ.aE (VR.mono cT.ext dY) hx) (cZ.aE jq hy) hcb (hQ _ ff aQ k₂ cZ (.refl ..) (RD.bool _))
theorem KC:u6 G C (.cmp op a b) fr σ=(evE G C a fr σ).bind λ va σ=>(evE G C b fr σ).bind λ vb σ=>
   (Res.of σ (aE σ va)).bind λ x σ=>(Res.of σ (aE σ vb)).bind λ y σ=>(Res.of σ (eS op x y)).bind λ r σ=>.ok r σ:=by
 unfold u6;rw[Ce];cases evE G C a fr σ with
 |ok va aX=>
  simp only[Res.ax];cases evE G C b fr aX with
  |ok vb dG=>
   simp only[Res.ax];cases aE dG va with
   |none=>rfl
   |some x=>
    show((Res.of dG (aE dG vb)).bind _).bind _=(Res.of dG (aE dG vb)).bind _;cases aE dG vb with
    |none=>rfl
    |some y=>
     show((Res.of dG ((eS op x y).map PyData.bool)).bind _).bind _=(Res.of dG (eS op x y)).bind _;cases eS op x y<;>rfl
  |err=>rfl
  |stuck=>rfl
 |err=>rfl
 |stuck=>rfl
theorem KD(ho:o=Gr op)(hb:behindInMarks o r=false)(ha:cS W n C sc a l)(hr:cS W n C sc b r):yk W n C sc (.cmp op a b) (.Compare l [o] [r] pos):=by
 subst ho;intro A e0 af L env s Φ ρ σ fr cx D;refine bO (KC ..) ?_;refine au.of (λ Q E h=>wpAny_isTrue_Compare1 h hb) (au.seq (ha cx D) λ va ya aX cJ av k₁ oU du aW dY=>?_);refine au.seq (hr cx (D.step aW du)) λ vi yi dG ff aQ k₂ AN cZ cT jq=>?_;refine au.opt λ x hx=>au.opt λ y hy=>au.opt λ r hr=>au.ok λ Q E hQ=>?_;exact qY (s:={ s with heap:=aQ,toks:=k₂}) cZ (jr cx) (cZ.aE (VR.mono cT.ext dY) hx) (cZ.aE jq hy) hr (kB (hQ _ ff aQ k₂ cZ (.refl ..) rfl))
theorem KG(ho:o=Yg op)(ha:cS W n C sc a l)(hr:cS W n C sc b r):cS W n C sc (.bin op a b) (.BinOp l o r pos):=by
 subst ho;intro A e0 af L env s Φ ρ σ fr cx D;rw[Cg];refine au.of (λ Q E h=>wpAny_BinOp h) (au.seq (ha cx D) λ va ya aX cJ av k₁ oU du aW dY=>?_);refine au.seq (hr cx (D.step aW du)) λ vi yi dG ff aQ k₂ AN cZ cT jq=>?_;refine au.opt λ x hx=>au.opt λ y hy=>au.opt λ r hr=>au.ok λ Q E hQ=>?_;exact Ph (s:={ s with heap:=aQ,toks:=k₂}) (fs:=cK (e0::af)) cZ (cZ.aE (VR.mono cT.ext dY) hx) (cZ.aE jq hy) hr λ v Φ' h' k I' S' R'=>hQ v Φ' h' k I' S' R'
theorem KH(ha:cS W n C sc a x):cS W n C sc (.not a) (.UnaryOp .Not x pos):=by
 intro A e0 af L env s Φ ρ σ fr cx D;rw[Cf];refine au.of (λ Q E h=>wpAny_UnaryOp h) (au.seq (ha cx D) λ va ya aX cJ av k₁ oU du aW dY=>?_);refine au.opt λ b hb=>au.ok λ Q E hQ=>?_;have:=hV hb;subst this;obtain rfl:=RD.bi dY
 exact not_value (kB (hQ _ cJ av k₁ du (.refl ..) (RD.bool _)))
theorem KI(ha:yk W n C sc a x):yk W n C sc (.not a) (.UnaryOp .Not x pos):=by
 intro A e0 af L env s Φ ρ σ fr cx D;have e:u6 W.G C (.not a) fr σ=(u6 W.G C a fr σ).bind λ b σ=>.ok (!b) σ:=by
  unfold u6;rw[Cf];cases evE W.G C a fr σ with
  |ok v aX=>simp only[Res.ax];cases aP v<;>rfl
  |err=>rfl
  |stuck=>rfl
 refine bO (e ..) ?_;refine au.of (λ Q E h=>wpAny_isTrue_Not h) (au.seq (ha cx D) λ va ya aX cJ av k₁ oU du aW dY=>?_);induction dY;exact au.ok λ Q E hQ=>hQ _ cJ av k₁ du (.refl ..) rfl
theorem KJ(ha:cS W n C sc a x):cS W n C sc (.neg a) (.UnaryOp .USub x pos):=by
 intro A e0 af L env s Φ ρ σ fr cx D;rw[Kh];refine au.of (λ Q E h=>wpAny_UnaryOp h) (au.seq (ha cx D) λ va ya aX cJ av k₁ oU du aW dY=>?_);cases ya with
 |loc=>exact .stuck
 |d y=>
  cases y with
  |int i=>
   obtain⟨t,rfl⟩:=RD.ii dY;exact au.ok λ Q E hQ=>P.neg_int (hQ _ cJ av _ du (.refl ..) (RD.int _ _))
  |_=>exact .stuck
theorem qa:∀{xs:List E} {es:List Expr},kb W.GN W.FN sc xs es=true->(backTo pos (starEach es env)).all (λ p=>!p.1)=true
 |[],[],_=>rfl
 |[],_::_,h=>by simp[GB] at h
 |x::xs,[],h=>by simp[vH] at h
 |x::xs,e::es,h=>by
  simp only[vH,dN] at h;rw[gY h.1.1];have:(backTo pos (starEach es env)).all (λ p=>!p.1)=true:=qa h.2
  simpa[backTo] using this
theorem GC(B:agY W)(FO:w6 W)(hC:w5 W n C){as:List Expr}{id:Str}{px pos:Pos}(hg:sc.c6 id=true)(hf:ag4 f W.FN id=true)(pK:kb W.GN W.FN sc xs as=true)(hs:∀{A:Around} {e0:Env} {af:List Env} {L:Addr} {env:Env} {s:Shared} {Φ:Fz} {ρ:List Addr} {σ:ae} {fr:agq},Cx W n A e0 af L env sc->Dy W Φ ρ σ (e0::af) env sc.vars fr s.heap->pY W A (e0::af) L ρ (spliced (backTo pos (starEach as env))) Φ s (fL W.G C xs fr σ) (tA ρ)):cS W n C sc (.call f xs) (.Call (.Name id px) as [] pos):=by
 intro A e0 af L env s Φ ρ σ fr cx D;refine dd (Sc.bj hg) λ hv hd=>?_;refine bw (FO f id (oR hf)) λ a o fd hm ho YI=>?_;rw[Gl];refine au.of (P':=λ Q E s=>wpAny (model W.prog W.w) A (spliced (backTo pos (starEach as env))) (λ vs aL=>(aL.heap.get? a=some o/\o.data=.func fd)/\wpAny (model W.prog W.w) A (call (.ref a) vs) Q E aL) E s)
  (λ Q E h=>cX (vG B cx D.inv hv hm hd (Calls.callWith_function (lE (qa pK) (by simpa using h))))) ?_
 refine au.seq (P2:=λ vs Q E aL=>(aL.heap.get? a=some o/\o.data=.func fd)/\wpAny (model W.prog W.w) A (call (.ref a) vs) Q E aL) (hs cx D) λ vs ys aM Φ' h' k e' I S r=>?_;exact au.of (λ Q E h=>⟨⟨I.keeps a o ho,YI⟩,h⟩) (hC f id a (oR hf) hm A _ L ρ Φ' aM _ vs ys cx.frames cx.handled cx.depth cx.units I (D.step S I).pZ r)
end
section
variable {W:Wd}{A:Around}{s:Shared}{E Q:Value->Shared->Prop}{agx:Expr}{hi lo n:Nat}{p:Pos}{u1 u2:Tok}{vs:List Value}{fs ρ:List Addr}{l1 l2:Option Expr}
theorem tC{lo hi:Option Expr}{a i:Addr}{T id:String}(hT:s.TypeIs (.ref a) T)(hl:typeLookup (.type T) "__getitem__"=pure (some (.builtin id)))(h:wpAny (model W.prog W.w) A (getItem (.ref a) (.ref i)) Q E s):wpAny (model W.prog W.w) A (subscriptTail agx (.Slice lo hi none p) (.ref a) (.ref i)) Q E s:=by
 refine ak ?_;refine bO (getitemInPython_of_ne hT.not_modules ..) ?_;refine ak (wpAny_specialOf hT hl ?_);haveI fin:wpAny (model W.prog W.w) A (subscripted (.Slice lo hi none p) false (.ref a) (.ref i)) (λ r dj=>wpAny (model W.prog W.w) A (letTemporaryGo agx (.ref a) r >>= λ _=>pure r) Q E dj) E s:=
  wpAny_operating (cj h (λ r dj aO=>ak (let_go (.inl ⟨_,rfl⟩) (aF aO))) λ _ _ x=>x)
 first
  |exact aF (ak fin)
  |exact ak (aF (ak fin))
  |exact ak fin
theorem GD{α:Type}(l:List α)(lo hi:Nat):(l.drop (min lo l.length)).take (min hi l.length - min lo l.length)=(l.take hi).drop lo:=by
 rw[List.drop_take];rcases Nat.le_total lo l.length with h|h
 .rw[Nat.min_eq_left h];rcases Nat.le_total hi l.length with g|g
  .rw[Nat.min_eq_left g]
  .rw[Nat.min_eq_right g,List.take_of_length_le (by rw[kC];exact cy _),List.take_of_length_le (by rw[kC];exact Nat.sub_le_sub_right g lo)]
 .rw[Nat.min_eq_right h,List.drop_eq_nil_of_le (cy _),List.drop_eq_nil_of_le h,List.take_nil,List.take_nil]
theorem yL(lo hi n:Nat):Builtin.Slice.sliceAdjust (some (lo:Int)) (some (hi:Int)) 1 (n:Int)=(((min lo n:Nat):Int),((min hi n:Nat):Int)):=by
 unfold Builtin.Slice.sliceAdjust;haveI h1:¬((1:Int)<0):=by decide
 haveI h2:¬((lo:Int)<0):=by exact Int.not_lt.mpr (Int.natCast_nonneg _)
 haveI h3:¬((hi:Int)<0):=by exact Int.not_lt.mpr (Int.natCast_nonneg _)
 simp only[h1,h2,h3,if_false];congr 1<;>exact SK
theorem yM(a b:Nat):Builtin.Slice.slicePlaces (a:Int) (b:Int) 1=b - a:=by
 unfold Builtin.Slice.slicePlaces;haveI h1:(1:Int) > 0:=by decide
 simp only[h1,if_true,Int.ediv_one];split<;>(first|exact(congrArg Int.toNat (Int.sub_add_cancel ..)).trans (Int.toNat_sub ..)|exact(Nat.sub_eq_zero_of_le (Nat.not_lt.mp λ q=>‹¬_› (Int.ofNat_lt.mpr q))).symm)
theorem qb{Q:Int×Int×Nat->Shared->Prop}(hs:s.heap.IsSliceOf sl (.int lo u1) (.int hi u2) .none)(h:Q (((min lo n:Nat):Int),1,min hi n - min lo n) s):wpAny (model W.prog W.w) A (Builtin.Slice.sliceApplied (.ref sl) (pure (n:Int))) Q E s:=by
 obtain⟨os,UJ,hcs,w9⟩:=id hs;refine ak (ak (wpAny_field UJ w9 (x:=.int lo u1) rfl (ak (wpAny_field UJ w9 (x:=.int hi u2) rfl (ak (wpAny_field UJ w9 (x:=.none) rfl (aF ?_)))))));refine ak (slicePart_none ?_);rw[if_neg (by decide)];refine ak (slicePart_int (ak (slicePart_int (ak (aF ?_)))));show wpAny _ _ (match Builtin.Slice.sliceAdjust (some (lo:Int)) (some (hi:Int)) 1 (n:Int) with|(lo,hi)=>pure (lo,(1:Int),Builtin.Slice.slicePlaces lo hi 1)) _ _ s;refine bO (yL ..) ?_;show wpAny _ _ (pure (((min lo n:Nat):Int),(1:Int),Builtin.Slice.slicePlaces ((min lo n:Nat):Int) ((min hi n:Nat):Int) 1)) _ _ s;refine bO (yM ..) ?_;exact aF h
theorem DU(xs:Array Value)(a k:Nat):((List.range k).filterMap λ(i:Nat)=>xs[((a:Int)+(i:Int) * 1).toNat]?).toArray=((xs.toList.drop a).take k).toArray:=by
 haveI e:(λ(k:Nat)=>xs[((a:Int)+(k:Int) * 1).toNat]?)=λ k=>xs[a+k]?:=by
  funext k;haveI:((a:Int)+(k:Int) * 1).toNat=a+k:=by exact congrArg (λ x:Int=>((a:Int)+x).toNat) (Int.mul_one (k:Int))
  rw[this]
 rw[e];haveI:=pick_run xs a k;rw[List.filterMap_map] at this;haveI e2:((λ x=>xs[x]?) ∘ λ x=>a+x)=λ k=>xs[a+k]?:=rfl;rw[e2] at this;rw[this]
theorem qc{t sl:Addr}(ht:IsTup s.heap t vs.toArray)(hs:s.heap.IsSliceOf sl (.int lo u1) (.int hi u2) .none)(hl:vs.length<=sizeLine)(h0:(vs.take hi).drop lo=vs->Q (.ref t) s)(h:Q (.ref s.heap.objs.size) { s with heap:=s.heap.push { cls:=.type "tuple",data:=.seq ((vs.take hi).drop lo).toArray}}):wpAny (model W.prog W.w) A (getItem (.ref t) (.ref sl)) Q E s:=by
 haveI Cv:sizeOk (.seq ((vs.take hi).drop lo).toArray):=by
  show((vs.take hi).drop lo).toArray.size<=sizeLine;simp only[List.size_toArray,kC,List.length_take];exact ao (Nat.sub_le ..) (ao (Nat.min_le_right ..) hl)
 obtain⟨os,UJ,hcs,w9⟩:=id hs;unfold getItem
 try with_reducible refine eD ?_
 first|refine ak (aF ?_)|skip
 refine ak (wpAny_sequenceKey ht.typeIs (by decide) ?_);refine ak (wpAny_callSpecial?_slot (name:=Str.ofString "__getitem__") ht.typeIs slot_tuple_getitem
  (wpAny_call_entry slot_tuple_getitem ht.typeIs entry_tuple_getitem ?_ (args_tuple_getitem _ _)))
 show wpAny _ _ (Builtin.Tuple.tupleItemsOf (.ref t) >>= _) _ _ s;refine ak (tupleItemsOf_ ht ?_);refine ak (wpAny_typeOf ⟨os,UJ,hcs⟩ ?_);rw[if_pos (by decide)];refine ak (qb hs ?_);show wpAny _ _ (if(((min lo vs.toArray.size:Nat):Int)==0&&(1:Int)==1&&(min hi vs.toArray.size - min lo vs.toArray.size)==vs.toArray.size)=true then _ else _) _ _ s;haveI AO:(vs.drop (min lo vs.toArray.size)).take (min hi vs.toArray.size - min lo vs.toArray.size)=(vs.take hi).drop lo:=by refine bO (List.size_toArray ..) ?_;exact GD vs lo hi
 split
 .rename_i hq;simp only[dN,beq_iff_eq] at hq;have e0:min lo vs.toArray.size=0:=by exact Int.ofNat.inj hq.1.1
  rw[e0,List.drop_zero] at AO;haveI e1:min hi vs.toArray.size=vs.toArray.size:=by have:=hq.2;haveI this:=e0▸this;exact this
  rw[e1,Nat.sub_zero,List.size_toArray,List.take_length] at AO;refine ak ?_;refine ak (wpAny_typeOf ht.typeIs (aF ?_));rw[if_pos (by decide)]
  first
   |exact aF ⟨_,rfl,aF (h0 AO.symm)⟩
   |exact ak (aF ⟨_,rfl,aF (h0 AO.symm)⟩)
   |exact ak (wpAny_rule (aF ⟨_,rfl,aF (h0 AO.symm)⟩))
   |exact ak (aF (aF ⟨_,rfl,aF (h0 AO.symm)⟩))
 .refine bO (DU ..) ?_;rw[show vs.toArray.toList=vs from List.toList_toArray ..];refine bO (AO ..) ?_
  first
   |exact ak (m:=Builtin.Tuple.tupleExact _) (wpAny_newObj_type (aF ⟨_,rfl,aF h⟩) Cv)
   |exact ak (m:=Builtin.Tuple.tupleExact _) (wpAny_newObj_type (ak (aF (aF ⟨_,rfl,aF h⟩))) Cv)
   |exact ak (ak (m:=Builtin.Tuple.tupleExact _) (wpAny_newObj_type (aF (aF ⟨_,rfl,aF h⟩)) Cv))
   |exact ak (ak (m:=Builtin.Tuple.tupleExact _) (wpAny_newObj_type (aF ⟨_,rfl,aF h⟩) Cv))
theorem DV(vs:List Value)(lo hi:Nat):slicePick vs.toArray (some (lo:Int)) (some (hi:Int)) none=((vs.take hi).drop lo).toArray:=by
 rw[slicePick_plain];simp only[Option.elim,clipAt_nat,List.size_toArray];rw[GD]
noncomputable def JU(a b:Value):Obj:={ cls:=.type "slice",data:=.fields #[a,b,.none]}
theorem GF{Φ:Fz}{σ:ae}(I:Inv W Φ ρ σ s.heap){a:Value}{x r:PyData}(ra:RT s.heap Φ a x)(e:pR lo hi x=some r)(hQ:∀v Φ' h',Inv W Φ' ρ σ h'->agA ρ fs Φ s.heap Φ' h'->RD Φ' v r->Q v { s with heap:=h'}):wpAny (model W.prog W.w) A (subscriptTail agx (.Slice l1 l2 none p) a (.ref s.heap.objs.size)) Q E { s with heap:=s.heap.push (JU (.int lo u1) (.int hi u2))}:=by
 haveI I1:=I.ext (bY s.heap (JU (.int lo u1) (.int hi u2)));haveI S1:agA ρ fs Φ s.heap Φ (s.heap.push (JU (.int lo u1) (.int hi u2))):=agA.bo (bY _ _);cases x with
 |list xs=>
  refine dd (dr e) λ hl z2=>?_;obtain rfl:=z2;refine bw (ra.list I.fe) λ a vs n z4 ha rs=>?_;obtain rfl:=z4;haveI hz:vs.toArray.size<=sizeLine:=by refine bO (List.size_toArray ..) ?_;refine bO (rs.length ..) ?_;exact ao hl jj
  haveI tD:(s.heap.push (JU (.int lo u1) (.int hi u2))).get? a=some (dE vs n):=bY _ _ _ _ ha;refine tC (T:="list") ⟨_,tD,rfl⟩ slot_list_getitem.lookup ?_;refine wpAny_getItem_list_slice (s:={ s with heap:=s.heap.push (JU (.int lo u1) (.int hi u2))}) (lo:=some lo) (hi:=some hi) (st:=none) ⟨_,tD,rfl,n,rfl⟩ (Heap.IsSliceOf.new ..) (.int _ _) (.int _ _) .none (by simp) ?_ hz;refine bO (DV ..) ?_;exact sL (s:={ s with heap:=s.heap.push (JU (.int lo u1) (.int hi u2))}) (fs:=fs) I1 ((rs.take hi).drop lo) λ Φ' I' S' R'=>hQ _ Φ' _ I' (S1.trans S') R'
 |tuple xs=>
  refine dd (dr e) λ hl z2=>?_;obtain rfl:=z2;refine bw (ra.tuple I.fe) λ a vs n z4 ha rs=>?_;obtain rfl:=z4;haveI tD:(s.heap.push (JU (.int lo u1) (.int hi u2))).get? a=some (gG vs n):=bY _ _ _ _ ha;refine tC (T:="tuple") ⟨_,tD,rfl⟩ slot_tuple_getitem.lookup ?_;refine qc (s:={ s with heap:=s.heap.push (JU (.int lo u1) (.int hi u2))}) ⟨_,tD,rfl,n,rfl⟩ (Heap.IsSliceOf.new ..) (by refine bO (rs.length ..) ?_;exact ao hl jj) (λ q=>?_) ?_
  .haveI rr:=(rs.take hi).drop lo;have hx:(xs.take hi).drop lo=xs:=by
    have h1:=congrArg List.length q;rw[kC,List.length_take,rs.length] at h1;by_cases h0:xs=[]
    .subst h0;simp
    .have:0<xs.length:=List.length_pos_iff.mpr h0;have e0:lo=0:=by exact Nat.eq_zero_of_not_pos λ q=>Nat.lt_irrefl _ (eQ (ao (bV h1.symm) (Nat.sub_le_sub_right (Nat.min_le_right hi _) lo)) (Nat.sub_lt this q))
     haveI e1:xs.length<=hi:=by exact ao (bV h1.symm) (ao (Nat.sub_le ..) (Nat.min_le_left ..))
     simp only[e0,List.drop_zero,List.take_of_length_le e1]
   haveI hQ:=hx▸hQ;exact ra.nl.elim (λ ra=>hQ _ Φ _ I1 S1 ra) λ e=>e.elim nofun
  .exact wX (s:={ s with heap:=s.heap.push (JU (.int lo u1) (.int hi u2))}) (fs:=fs) I1 ((rs.take hi).drop lo) λ Φ' I' S' R'=>hQ _ Φ' _ I' (S1.trans S') R'
 |_=>cases e
end
theorem KL{W:Wd}{n:Nat}{C:aG}{sc:Sc}{a:E}{lo hi:Nat}(ha:cS W n C sc a v)(h1:cS W n C sc (.con (.int lo)) e1)(h2:cS W n C sc (.con (.int hi)) e2):cS W n C sc (.Fs a lo hi) (.Subscript v (.Slice (some e1) (some e2) none p) pos):=by
 intro A e0 af L env s Φ ρ σ fr cx D;show pY W A (e0::af) L ρ _ Φ s ((evE W.G C a fr σ).bind λ va σ=>(evE W.G C (.con (.int lo)) fr σ).bind λ v1 σ=>(evE W.G C (.con (.int hi)) fr σ).bind λ v2 σ=>(Res.of σ (aE σ va)).bind λ x σ=>(Res.of σ (pR lo hi x)).bind λ r σ=>.ok (.d r) σ) (Kw ρ);refine au.of (λ Q E h=>Subscript_ h) (au.seq (ha cx D) λ va ya aX cJ av k₁ UK du aW dY=>?_);have hW:=D.step aW du;refine au.of (P':=λ Q E s=>wpAny (model W.prog W.w) A (eval e1 env) (λ l aL=>wpAny (model W.prog W.w) A (eval e2 env) (λ u bB=>wpAny (model W.prog W.w) A (subscriptTail v (.Slice (some e1) (some e2) none p) va (.ref bB.heap.objs.size)) Q E { bB with heap:=bB.heap.push (JU l u)}) E aL) E s)
  (λ Q E h=>wpAny_Slice (cj h (λ l aL h'=>cj h' (λ u bB cb=>by rw[evalPart_none];exact aF cb) λ _ _ x=>x) λ _ _ x=>x)) ?_
 refine au.seq (h1 cx hW) λ v1 y1 dG ff aQ k₂ UL cZ cT jq=>?_;refine au.seq (h2 cx (hW.step cT cZ)) λ v2 y2 gc d6 aO cM UM fE bF q6=>?_;cases UL;cases UM;obtain⟨_,rfl⟩:=RD.ii jq;obtain⟨_,rfl⟩:=RD.ii q6;refine au.opt λ x hx=>au.opt λ r hr=>au.ok λ Q E hQ=>?_;exact GF (s:={ s with heap:=aO,toks:=cM}) fE (fE.aE (VR.mono bF.ext (VR.mono cT.ext dY)) hx) hr λ u Φ' h' I' S' r'=>hQ u Φ' h' cM I' S' r'
theorem vI{prog:Program}{w:World}{A:Around}{E:Value->Shared->Prop}(eZ:t≠it):∀(n i:Nat) (s:Shared) (Q:List Value->Shared->Prop),s.heap.IsListIter it t i->s.heap.IsList t items->i+n<=items.size ->
  (∀h',h'.IsListIter it t (i+n)->Heap.SameBut it s.heap h'->Q ((items.toList.drop i).take n) { s with heap:=h'})->wpAny (model prog w) A (draw (.ref it) n) Q E s
 |0,i,s,Q,hit,_,_,hQ=>by
  exact aF (by simpa using hQ s.heap hit (Heap.SameBut.refl ..))
 |n+1,i,s,Q,hit,ht,hle,hQ=>by
  have e7:i<items.size:=by exact iI (Nat.lt_add_of_pos_right (Nat.succ_pos n)) hle
  refine ak (wpAny_pyNext_list_item hit ht (x:=items[i]) (by simp[e7]) λ av AP dh=>?_);refine ak (eD (vI eZ n (i+1) _ _ AP (ht.extBut dh.extBut eZ) (by exact mG hle) λ aQ PH gx=>aF ?_));haveI hd:items.toList.drop i=items[i]::items.toList.drop (i+1):=by simp[List.drop_eq_getElem_cons,e7]
  haveI:=hQ aQ (by rw[show i+(n+1)=i+1+n by exact M4];exact PH) (dh.trans gx);rw[hd,List.take_succ_cons] at this;exact this
section
variable {prog:Program}{w:World}{A:Around}{E:Value->Shared->Prop}{s:Shared}{Q:List Value->Shared->Prop}
theorem kJ(hh:A.handled=none)(ht:s.heap.IsList t items)(hQ:∀h',Heap.ExtBut s.heap.objs.size s.heap h'->Q items.toList { s with heap:=h'}):wpAny (model prog w) A (unpackItems (.ref t) items.size none) Q E s:=by
 have e7:t≠s.heap.objs.size:=by obtain⟨o,ho,_⟩:=ht;exact dI (eE ho)
 refine ak ?_
 .unfold notIterableAtAll;refine ak (wpAny_specialOf ht.typeIs F.slot_list_iter.lookup ?_);refine aF ?_;refine ak (eD (wpAny_pyIter_list ht ?_));refine ak (eD (vI e7 items.size 0 _ _ ⟨_,d5 _ rfl,rfl,rfl⟩ (ht.push _) (by exact bV (Nat.zero_add _)) λ av AP dh=>?_));have u9:List.take items.size (List.drop 0 items.toList)=items.toList:=by
   refine bO (List.drop_zero ..) ?_;exact List.take_of_length_le (by simp)
  refine bO (u9 ..) ?_;rw[if_neg (by simp)];refine ak (eD (wpAny_pyNext_list_end hh AP ((ht.push _).extBut dh.extBut e7) (by simp) λ aQ Ci=>?_));refine aF (hQ aQ λ b o hb e=>Ci b o hb (dh.extBut b o hb (dA _ e)))
theorem yN{x1}{Q:Unit->Shared->Prop}(hh:A.handled=none)(ht:s.heap.IsList t items)(hn:(assignEach elts env).length=items.size)(UN:(assignEach elts env).findIdx? (·.1)=none)(h:∀h',Heap.ExtBut s.heap.objs.size s.heap h'->wpAny (model prog w) A (assignInOrder ((assignEach elts env).map (·.2)) items.toList) Q E { s with heap:=h'}):wpAny (model prog w) A (assign (.Tuple elts x1 pos) env (.ref t)) Q E s:=by
 rw[arm_assign_Tuple];refine ak (gH ?_);unfold unpack;rw[hn,UN];exact ak (eD (kJ hh ht h))
end
section
variable {W:Wd} {n:Nat} {C:aG} {A:Around} {e0:Env} {af:List Env} {L:Addr} {env:Env} {sc:Sc} {s:Shared} {Φ:Fz} {ρ:List Addr} {σ:ae} {fr:agq}
def mR(W:Wd)(n:Nat)(C:aG)(sc:Sc)(op:BoolOp)(xs:List E)(es:List Expr):Prop:=
 ∀{A:Around} {e0:Env} {af:List Env} {L:Addr} {env:Env} {s:Shared} {Φ:Fz} {ρ:List Addr} {σ:ae} {fr:agq} (pos:Pos),Cx W n A e0 af L env sc->Dy W Φ ρ σ (e0::af) env sc.vars fr s.heap->pY W A (e0::af) L ρ (boolOp pos op (evalEach es env)) Φ s ((match op with|.And=>dg W.G C xs fr σ | .Or=>i9 W.G C xs fr σ)) (Kw ρ)
def qd(W:Wd)(n:Nat)(C:aG)(sc:Sc)(op:BoolOp)(xs:List E)(es:List Expr):Prop:=
 ∀{A:Around} {e0:Env} {af:List Env} {L:Addr} {env:Env} {s:Shared} {Φ:Fz} {ρ:List Addr} {σ:ae} {fr:agq},Cx W n A e0 af L env sc->Dy W Φ ρ σ (e0::af) env sc.vars fr s.heap->pY W A (e0::af) L ρ (allTrue op es env) Φ s ((match op with|.And=>dg W.G C xs fr σ | .Or=>i9 W.G C xs fr σ).bind λ v σ=>Res.of σ (aP v)) DS
section
variable {e f x:Expr}{a y:E}{xs:List E}{es:List Expr}{pos px:Pos}{M:Model}{Q:Value->Shared->Prop}{id:Str}{t:Sem Value}{o:Option (Option V)}
theorem yO{op:BoolOp}{x:E}(h:cS W n C sc x e):mR W n C sc op [x] [e]:=by
 intro A e0 af L env s Φ ρ σ fr pos cx D;have q:(match op with|.And=>dg W.G C [x] fr σ | .Or=>i9 W.G C [x] fr σ)=(evE W.G C x fr σ).bind λ v σ=>(Res.of σ (aP v)).bind λ b σ=>.ok (.d (.bool b)) σ:=by
  induction op
  .show dg W.G C [x] fr σ=_
   (first|rw[Ka]|rw[Kb]);congr 1;funext v σ;congr 1;funext b σ;induction b<;>rfl
  .show i9 W.G C [x] fr σ=_
   (first|rw[O9]|rw[Pa]);congr 1;funext v σ;congr 1;funext b σ;induction b<;>rfl
 rw[q];show pY W A (e0::af) L ρ (eval e env) Φ s _ _;refine au.seq (P2:=λ v Q E s'=>Q v s') (h cx D) λ v y aM Φ' h' k e' I S r=>au.opt λ b hb=>au.ok λ Q E hQ=>?_;have:=hV hb;subst this;obtain rfl:=RD.bi r
 exact hQ _ Φ' h' k I (.refl ..) (RD.bool _)
set_option backward.match.sparseCases true in
theorem ahm{x:E}(h:cS W n C sc x e)(hr:mR W n C sc .And (y::xs) (f::es)):mR W n C sc .And (x::y::xs) (e::f::es):=by
 intro A e0 af L env s Φ ρ σ fr pos cx D;show pY W A (e0::af) L ρ (boolOp pos .And (evalEach (e::f::es) env)) Φ s (dg W.G C (x::y::xs) fr σ) _
 (first|rw[Ka]|rw[Kb])
 have:boolOp pos .And (evalEach (e::f::es) env)=(do
  let v ←eval e env
  standAt pos
  let t ←holding [v] (truthy v)
  match BoolOp.And,t with
  |.And,false | .Or,true=>pure v
  |_,_=>boolOp pos .And (evalEach (f::es) env)):=rfl
 rw[this];refine au.of (P':=λ Q E s=>wpAny (model W.prog W.w) A (eval e env) (λ v aL=>wpAny (model W.prog W.w) A (truthy v) (λ t bB=>if t then wpAny (model W.prog W.w) A (boolOp pos .And (evalEach (f::es) env)) Q E bB else Q v bB) E aL) E s) (λ Q E h=>?_) ?_
 .refine ak (cj h (λ v aL av=>ak (gH (ak (eD (cj av (λ t bB aQ=>?_) λ _ _ x=>x))))) λ _ _ x=>x);induction t
  .exact aF aQ
  .exact aQ
 .refine au.seq (P2:=λ v Q E aL=>wpAny (model W.prog W.w) A (truthy v) (λ t bB=>if t then wpAny (model W.prog W.w) A (boolOp pos .And (evalEach (f::es) env)) Q E bB else Q v bB) E aL) (h cx D) λ v y aM Φ' h' k e' I S r=>au.opt λ b hb=>?_;have:=hV hb;subst this;obtain rfl:=RD.bi r
  induction b
  .exact au.ok λ Q E hQ=>kB (hQ _ Φ' h' k I (.refl ..) (RD.bool _))
  .exact au.of (λ Q E h=>kB h) (hr pos cx (D.step S I))
set_option backward.match.sparseCases true in
theorem KN{x:E}(h:cS W n C sc x e)(hr:mR W n C sc .Or (y::xs) (f::es)):mR W n C sc .Or (x::y::xs) (e::f::es):=by
 intro A e0 af L env s Φ ρ σ fr pos cx D;show pY W A (e0::af) L ρ (boolOp pos .Or (evalEach (e::f::es) env)) Φ s (i9 W.G C (x::y::xs) fr σ) _
 (first|rw[O9]|rw[Pa])
 have:boolOp pos .Or (evalEach (e::f::es) env)=(do
  let v ←eval e env
  standAt pos
  let t ←holding [v] (truthy v)
  match BoolOp.Or,t with
  |.And,false | .Or,true=>pure v
  |_,_=>boolOp pos .Or (evalEach (f::es) env)):=rfl
 rw[this];refine au.of (P':=λ Q E s=>wpAny (model W.prog W.w) A (eval e env) (λ v aL=>wpAny (model W.prog W.w) A (truthy v) (λ t bB=>if t then Q v bB else wpAny (model W.prog W.w) A (boolOp pos .Or (evalEach (f::es) env)) Q E bB) E aL) E s) (λ Q E h=>?_) ?_
 .refine ak (cj h (λ v aL av=>ak (gH (ak (eD (cj av (λ t bB aQ=>?_) λ _ _ x=>x))))) λ _ _ x=>x);induction t
  .exact aQ
  .exact aF aQ
 .refine au.seq (P2:=λ v Q E aL=>wpAny (model W.prog W.w) A (truthy v) (λ t bB=>if t then Q v bB else wpAny (model W.prog W.w) A (boolOp pos .Or (evalEach (f::es) env)) Q E bB) E aL) (h cx D) λ v y aM Φ' h' k e' I S r=>au.opt λ b hb=>?_;have:=hV hb;subst this;obtain rfl:=RD.bi r
  induction b
  .exact au.of (λ Q E h=>kB h) (hr pos cx (D.step S I))
  .exact au.ok λ Q E hQ=>kB (hQ _ Φ' h' k I (.refl ..) (RD.bool _))
theorem yP:qd W n C sc .And [] []:=by
 intro A e0 af L env s Φ ρ σ fr cx D;exact au.ok (σ:=σ) λ Q E hQ=>wpAny_allTrue_And_nil (hQ _ Φ s.heap s.toks D.inv (.refl ..) rfl)
theorem AQ:qd W n C sc .Or [] []:=by
 intro A e0 af L env s Φ ρ σ fr cx D;exact au.ok (σ:=σ) λ Q E hQ=>wpAny_allTrue_Or_nil (hQ _ Φ s.heap s.toks D.inv (.refl ..) rfl)
theorem KO{x:E}(h:yk W n C sc x e)(hr:qd W n C sc .And xs es):qd W n C sc .And (x::xs) (e::es):=by
 intro A e0 af L env s Φ ρ σ fr cx D;have q:(dg W.G C (x::xs) fr σ).bind (λ v σ=>Res.of σ (aP v))=(u6 W.G C x fr σ).bind λ b σ=>if b then(dg W.G C xs fr σ).bind (λ v σ=>Res.of σ (aP v)) else .ok false σ:=by
  (first|rw[Ka]|rw[Kb]);unfold u6
  cases evE W.G C x fr σ with
  |ok v aX=>
   simp only[Res.ax];cases aP v with
   |none=>rfl
   |some b=>induction b<;>rfl
  |err=>rfl
  |stuck=>rfl
 show pY W A (e0::af) L ρ (allTrue .And (e::es) env) Φ s ((dg W.G C (x::xs) fr σ).bind (λ v σ=>Res.of σ (aP v))) DS;rw[q];refine au.of (λ Q E h=>wpAny_allTrue_And_cons h) (au.seq (P2:=λ b Q E aL=>if b then wpAny (model W.prog W.w) A (allTrue .And es env) Q E aL else Q false aL) (h cx D) λ b b' aM Φ' h' k e' I S r=>?_);induction r;induction b
 .exact au.ok λ Q E hQ=>hQ _ Φ' h' k I (.refl ..) rfl
 .exact hr cx (D.step S I)
theorem PJ{x:E}(h:yk W n C sc x e)(hr:qd W n C sc .Or xs es):qd W n C sc .Or (x::xs) (e::es):=by
 intro A e0 af L env s Φ ρ σ fr cx D;have q:(i9 W.G C (x::xs) fr σ).bind (λ v σ=>Res.of σ (aP v))=(u6 W.G C x fr σ).bind λ b σ=>if b then .ok true σ else(i9 W.G C xs fr σ).bind (λ v σ=>Res.of σ (aP v)):=by
  (first|rw[O9]|rw[Pa]);unfold u6
  cases evE W.G C x fr σ with
  |ok v aX=>
   simp only[Res.ax];cases aP v with
   |none=>rfl
   |some b=>induction b<;>rfl
  |err=>rfl
  |stuck=>rfl
 show pY W A (e0::af) L ρ (allTrue .Or (e::es) env) Φ s ((i9 W.G C (x::xs) fr σ).bind (λ v σ=>Res.of σ (aP v))) DS;rw[q];refine au.of (λ Q E h=>wpAny_allTrue_Or_cons h) (au.seq (P2:=λ b Q E aL=>if b then Q true aL else wpAny (model W.prog W.w) A (allTrue .Or es env) Q E aL) (h cx D) λ b b' aM Φ' h' k e' I S r=>?_);induction r;induction b
 .exact hr cx (D.step S I)
 .exact au.ok λ Q E hQ=>hQ _ Φ' h' k I (.refl ..) rfl
theorem fN(h:agB x=true):backTo pos (starEach [x] env)=[(false,eval x env)]:=by
 rw[gY h];rfl
theorem oD{E:Value->Shared->Prop}{id:String}(h:wpAny M A t (λ v aL=>wpAny M A (call (.builtin id) [v]) Q E aL) E s):wpAny M A (callWith pos (.builtin id) [] [(false,t)] []) Q E s:=
 Calls.callWith_builtin rfl (Calls.evalArgs_plain (Calls.spliced_cons (cj h (λ v aL av=>Calls.spliced_nil av) λ _ _ x=>x)))
theorem lF{E:Value->Shared->Prop}{T:String}(h:wpAny M A t (λ v aL=>wpAny M A (call (.type T) [v]) Q E aL) E s):wpAny M A (callWith pos (.type T) [] [(false,t)] []) Q E s:=
 PyProof.Rows.callWith_type rfl (Calls.evalArgs_plain (Calls.spliced_cons (cj h (λ v aL av=>Calls.spliced_nil av) λ _ _ x=>x)))
theorem KP(B:agY W)(hg:sc.c6 id=true)(GG:id=("len" : Str))(u7:agB x=true)(ha:cS W n C sc a x):cS W n C sc (.len a) (.Call (.Name id px) [x] [] pos):=by
 intro A e0 af L env s Φ ρ σ fr cx D;refine dd (Sc.bj hg) λ hv hd=>?_;subst GG;rw[Ki];refine au.of (λ Q E h=>cX (eJ B cx D.inv hv B.len.1 B.len.2 hd (by rw[fN u7];exact oD h))) (au.seq (ha cx D) λ v y aM Φ' h' k e' I S r=>au.opt λ d hd=>au.opt λ z hz=>au.ok λ Q E hQ=>?_);have rt:=I.aE r hd;cases d<;>simp only[gr,reduceCtorEq,Option.ite_none_right_eq_some] at hz
 .refine dd hz λ hl hz=>?_;cases hz;refine bw (rt.list I.fe) λ a vs m z4 ha rs=>?_;obtain rfl:=z4;have:=rs.length
  have PK:lim=1048576:=rfl;refine Calls.call_len_list (s:={ s with heap:=h',toks:=k}) ⟨_,ha,rfl,m,rfl⟩ (by simp only[List.size_toArray];exact Int.lt_of_lt_of_le (Int.ofNat_lt.mpr (Nat.lt_succ_of_le (ao (bV this) hl))) (by decide)) ?_;have e:vs.toArray.size=vs.length:=List.size_toArray;rw[e,this];exact hQ _ Φ' h' _ I (.refl ..) (RD.int _ _)
 .refine dd hz λ hl hz=>?_;cases hz;refine bw (rt.tuple I.fe) λ a vs m z4 ha rs=>?_;obtain rfl:=z4;have:=rs.length
  have PK:lim=1048576:=rfl;refine P.len_tuple (s:={ s with heap:=h',toks:=k}) (n:=m) ha (by simp only[List.size_toArray];exact Int.not_le.mpr (Int.lt_of_lt_of_le (Int.ofNat_lt.mpr (Nat.lt_succ_of_le (ao (bV this) hl))) (by decide))) ?_;have e:vs.toArray.size=vs.length:=List.size_toArray;rw[e,this];exact hQ _ Φ' h' _ I (.refl ..) (RD.int _ _)
theorem DW(B:agY W)(hg:sc.c6 id=true)(GG:id=("tuple" : Str))(u7:agB x=true)(ha:cS W n C sc a x):cS W n C sc (.l5 a) (.Call (.Name id px) [x] [] pos):=by
 intro A e0 af L env s Φ ρ σ fr cx D;refine dd (Sc.bj hg) λ hv hd=>?_;subst GG;rw[DK];refine au.of (λ Q E h=>cX (eJ B cx D.inv hv B.tuple.1 B.tuple.2 hd (by rw[fN u7];exact lF h))) (au.seq (ha cx D) λ v y aM Φ' h' k e' I S r=>au.opt λ d hd=>au.opt λ z hz=>au.ok λ Q E hQ=>?_);have rt:=I.aE r hd;cases d<;>simp only[gX,agt,Option.bind_none,Option.bind_some,reduceCtorEq,Option.ite_none_right_eq_some] at hz
 .refine dd hz λ hl hz=>?_;cases hz;refine bw (rt.list I.fe) λ a vs m z4 ha rs=>?_;obtain rfl:=z4;have:=rs.length
  have PK:=jj;refine call_tuple_list (s:={ s with heap:=h',toks:=k}) ⟨_,ha,rfl,m,rfl⟩ (λ av hk=>?_) (by simp only[List.size_toArray];exact s6 this hl rfl);refine dd ((I.ext hk).freeze (fs:=cK (e0::af)) (bY av (gG vs 0)) (Heap.br _) (d5 av (o:=gG vs 0) rfl)) λ f1 f2=>?_;exact hQ _ _ _ k f1 ((agA.bo hk).trans f2) (RD.tuple (Fz.hU ..) (rs.mono f2.ext))
 .refine dd hz λ hl hz=>?_;cases hz;refine bw (rt.tuple I.fe) λ a vs m z4 ha rs=>?_;obtain rfl:=z4;refine rt.nl.elim (λ rt=>?_) λ e=>e.elim nofun;exact call_tuple_same (s:={ s with heap:=h',toks:=k}) ⟨_,ha,rfl,m,rfl⟩ (hQ _ Φ' h' k I (.refl ..) rt)
theorem vJ{A:Around}{l:List Env}{h':Heap}{k:Nat}{s:Shared}(I:Inv W Φ ρ σ s.heap){u:Value}{d:PyData}{xs:List PyData}(rt:RT s.heap Φ u d)(hx:agt d=some xs)(hl:xs.length<=lim){E:Value->Shared->Prop}(hQ:∀h' vs m,(∀b o',s.heap.get? b=some o'->h'.get? b=some o')->h'.get? s.heap.objs.size=some (dE vs m)->dF Φ vs xs->Q (.ref s.heap.objs.size) { s with heap:=h'}):wpAny (model W.prog W.w) A (call (.type "list") [u]) Q E s:=by
 have PK:=jj;cases d<;>simp only[agt,reduceCtorEq] at hx
 .cases hx;refine bw (rt.list I.fe) λ a vs m z4 ha rs=>?_;obtain rfl:=z4;have:=rs.length
  exact call_list_seq a (T:="list") (.inl rfl) ha rfl rfl (λ h' c' hk ho=>hQ h' vs c' hk ho rs) (by simp only[List.size_toArray];exact s6 this hl rfl)
 .cases hx;refine bw (rt.tuple I.fe) λ a vs m z4 ha rs=>?_;obtain rfl:=z4;have:=rs.length
  exact call_list_seq a (T:="tuple") (.inr rfl) ha rfl rfl (λ h' c' hk ho=>hQ h' vs c' hk ho rs) (by simp only[List.size_toArray];exact s6 this hl rfl)
theorem DX(B:agY W)(hg:sc.c6 id=true)(GG:id=("list" : Str))(u7:agB x=true)(ha:cS W n C sc a x):cS W n C sc (.oA a) (.Call (.Name id px) [x] [] pos):=by
 intro A e0 af L env s Φ ρ σ fr cx D;refine dd (Sc.bj hg) λ hv hd=>?_;subst GG;rw[DL];refine au.of (λ Q E h=>cX (eJ B cx D.inv hv B.list.1 B.list.2 hd (by rw[fN u7];exact lF h))) (au.seq (ha cx D) λ v y aM Φ' h' k e' I S r=>au.opt λ d hd=>au.opt λ z hz=>au.ok λ Q E hQ=>?_);unfold jJ at hz;refine cq (agt d) (λ hx=>?_) (λ xs hx=>?_)
 .rw[hx] at hz;cases hz
 ·
  rw[hx] at hz;simp only[Option.bind_some,Option.ite_none_right_eq_some] at hz;refine dd hz λ hl hz=>?_;cases hz;refine vJ (s:={ s with heap:=h',toks:=k}) (l:=e0::af) (h':=h') (k:=0) I (I.aE r hd) hx hl λ av vs m hk ho rs=>?_;refine dd (I.freeze (fs:=cK (e0::af)) hk (Heap.br _) ho) λ f1 f2=>?_;exact hQ _ _ _ k f1 f2 (RD.list (Fz.hU ..) (rs.mono f2.ext))
theorem AR{σ:ae}(h:agN σ o=some fc):∃m,o=some (some (.loc m))/\σ[m]?=some (.dct fc):=by
 induction o with
 |none=>cases h
 |some o=>
  induction o with
  |none=>cases h
  |some v=>
   induction v with
   |d=>cases h
   |loc m=>
    refine⟨m,rfl,?_⟩;unfold agN at h;dsimp only at h;generalize σ[m]?=c at h ⊢;induction c with
    |none=>cases h
    |some c=>
     induction c with
     |lst=>cases h
     |dct l=>rw[bD h]
end
section
variable {fc:List (Str×PyData)}
theorem Cw(B:agY W)(D:Dy W Φ ρ σ (e0::af) env sc.vars fr s.heap){i:Nat}(h:agN σ fr[i]?=some fc):∃m a,fr[i]?=some (some (.loc m))/\ρ[m]?=some a/\σ[m]?=some (.dct fc)/\(a==sysModules)=false/\∃ws,s.heap.DictOf (strKind W.prog W.w) a ws/\PR Φ ws fc:=by
 obtain⟨m,hm,hk⟩:=AR h;have e7:m<ρ.length:=by rw[D.inv.len];exact(gi.mp hk).1
 have ha:ρ[m]?=some ρ[m]:=by simp[e7]
 refine⟨m,ρ[m],hm,ha,hk,?_,D.inv.cell m _ _ ha hk⟩;refine bK B.sys λ o ho=>?_;have h1:=D.inv.apart ρ[m] (List.getElem_mem e7);by_cases q:ρ[m]=sysModules
 .rw[q,D.inv.base _ o ho] at h1;cases h1
 .simpa using q
theorem PR.lookup{ws:List (Str×Value)}(r:PR Φ ws fc)(k:Str):(match fc.lookup k with|some x=>∃v,valueAt ws k=some v/\RD Φ v x|none=>valueAt ws k=none):=by
 induction r with
 |nil=>simp[valueAt]
 |cons e r ih=>
  rename_i k' v x ws fc;simp only[List.lookup_cons];by_cases q:k=k'
  .subst q;simp[valueAt,e]
  .have:(k==k')=false:=by simpa using q
   simp only[this];refine cq (fc.lookup k) (λ hk=>?_) (λ y hk=>?_)
   .rw[hk] at ih;simp only at ih ⊢;simpa[valueAt,q,Ne.symm q] using ih
   .rw[hk] at ih;simp only at ih ⊢;refine aI ih λ v' h1 h2=>?_;exact⟨v',by simpa[valueAt,q,Ne.symm q] using h1,h2⟩
end
end
section
variable {Φ:Fz}{W:Wd}{n:Nat}{af:List Env}{sc:Sc}{ρ:List Addr}{fr:agq}{id k:Str}{pos px:Pos}{E Q:Value->Shared->Prop}{C:aG}{l sl:Expr}{o:CmpOp}
theorem PR.get(r:PR Φ ws fc)(h:fc.lookup k=some x):∃v,valueAt ws k=some v/\RD Φ v x:=by
 have:=r.lookup k
 haveI this:=h▸this;exact this
theorem agI(k:Str)(t:Tok):Value.isStrOf k (.str k t)=true:=by simp[Value.isStrOf]
theorem GH{A:Around}{e0 env:Env}{L:Addr}{s:Shared}{σ:ae}(B:agY W)(D:Dy W Φ ρ σ (e0::af) env sc.vars fr s.heap)(cx:Cx W n A e0 af L env sc){i:Nat}(ho:o=(if ng then CmpOp.NotIn else CmpOp.In))(hv:sc.vars[i]?=some (some id))(hd:(id==("__debug__" : Str))=false)(h:agN σ fr[i]?=some fc)(hQ:∀k',Q (.bool (ng != (fc.lookup k).isSome)) { s with toks:=k'}):wpAny (model W.prog W.w) A (eval (.Name id px) env) (λ b bB=>wpAny (model W.prog W.w) A (compareOp o (.str k t) b) Q E bB) E s:=by
 refine rS (Cw B D h) λ m a hf ha hs UO ws JV pr=>?_;refine wpAny_Name (p8 cx D hv hf λ u r=>?_) hd;obtain⟨a',tD,rfl⟩:=r;haveI tD:=ha▸tD;obtain rfl:=bD tD;have hl:=pr.lookup k;have hb:(valueAt ws k).isSome=(fc.lookup k).isSome:=by
  refine cq (fc.lookup k) (λ hk=>?_) (λ x hk=>?_)
  .haveI hl:=hk▸hl;simp only at hl;refine bO (hl ..) ?_;rfl
  .haveI hl:=hk▸hl;refine aI hl λ v h1 _=>?_;refine bO (h1 ..) ?_;rfl
 refine bO ho ?_;induction ng with
 |false=>
  refine wpAny_in_of (knd:=strKind W.prog W.w) (agI k t) UO JV.mapOf ?_;refine bO (hb ..) ?_;have:=hQ (s.toks+1)
  simpa using this
 |true=>
  refine wpAny_notIn_of (knd:=strKind W.prog W.w) (agI k t) UO JV.mapOf ?_;refine bO (hb ..) ?_;have:=hQ (s.toks+1)
  simpa using this
theorem GI(B:agY W)(ho:o=(if ng then CmpOp.NotIn else CmpOp.In))(hi:sc.isVar i id=true)(ha:cS W n C sc a l):cS W n C sc (.qW ng a i) (.Compare l [o] [.Name id px] pos):=by
 intro A e0 af L env s Φ ρ σ fr cx D;refine dd (Sc.dz hi) λ hv hd=>?_;rw[tv];refine au.of (λ Q E h=>wpAny_Compare1 h rfl) (au.seq (ha cx D) λ v y aM Φ' h' k e' I S r=>?_);split
 .obtain⟨_,rfl,_⟩:=RD.i r;refine au.opt λ fc hk=>au.ok λ Q E hQ=>?_;exact GH (s:={ s with heap:=h',toks:=k}) B (D.step S I) cx ho hv hd hk λ k'=>hQ _ Φ' h' k' I (.refl ..) (RD.bool _)
 .exact .stuck
theorem GJ(B:agY W)(ho:o=(if ng then CmpOp.NotIn else CmpOp.In))(hi:sc.isVar i id=true)(ha:cS W n C sc a l):yk W n C sc (.qW ng a i) (.Compare l [o] [.Name id px] pos):=by
 intro A e0 af L env s Φ ρ σ fr cx D;refine dd (Sc.dz hi) λ hv hd=>?_;have q:u6 W.G C (.qW ng a i) fr σ=(evE W.G C a fr σ).bind λ v σ=>match v with
   |.d (.str k)=>(Res.of σ (agN σ fr[i]?)).bind λ fc σ=>.ok (ng != (fc.lookup k).isSome) σ
   |_=>.stuck:=by
  unfold u6;rw[tv];cases evE W.G C a fr σ with
  |ok v aX=>
   simp only[Res.ax];induction v with
   |loc=>rfl
   |d x=>
    cases x<;>try rfl
    simp only;cases agN aX fr[i]?<;>rfl
  |err=>rfl
  |stuck=>rfl
 refine bO (q ..) ?_;refine au.of (λ Q E h=>wpAny_isTrue_Compare1 h rfl) (au.seq (ha cx D) λ v y aM Φ' h' k e' I S r=>?_);split
 .obtain⟨_,rfl,_⟩:=RD.i r;refine au.opt λ fc hk=>au.ok λ Q E hQ=>?_;exact GH (s:={ s with heap:=h',toks:=k}) B (D.step S I) cx ho hv hd hk λ k'=>kB (hQ _ Φ' h' k' I (.refl ..) rfl)
 .exact .stuck
theorem GK(B:agY W)(PG:jn sl=true)(hi:sc.isVar i id=true)(ha:cS W n C sc a sl):cS W n C sc (.u0 i a) (.Subscript (.Name id px) sl pos):=by
 intro A e0 af L env s Φ ρ σ fr cx D;refine dd (Sc.dz hi) λ hv hd=>?_;rw[yA];split
 .rename_i m hm;refine au.of (P':=λ Q E s=>wpAny (model W.prog W.w) A (eval sl env) (λ i bB=>∀u,VR Φ ρ u (.loc m)->wpAny (model W.prog W.w) A (subscriptTail (.Name id px) sl u i) Q E bB) E s)
   (λ Q E h=>Subscript_ (wpAny_Name (p8 cx D hv hm λ u r=>cj h (λ _ _ q=>q u r) λ _ _ q=>q) hd)) ?_
  refine au.seq (P2:=λ i Q E bB=>∀u,VR Φ ρ u (.loc m)->wpAny (model W.prog W.w) A (subscriptTail (.Name id px) sl u i) Q E bB) (ha cx D) λ v y aM Φ' h' k e' I S r=>?_;split
  .refine aI ((RT.fe r:RT s.heap Φ' v (.str _)).str) λ t z2 u7=>?_;obtain rfl:=z2;refine au.opt λ fc hk=>au.opt λ x hx=>au.ok λ Q E hQ=>?_;rintro u ⟨a,JW,rfl⟩;refine rS (Cw (s:={ s with heap:=h',toks:=k}) B (D.step S I) (i:=i) (by refine bO (hm ..) ?_;exact hk)) λ m' a' hf tD hs UO ws JV pr=>?_;haveI hf:=hm▸hf;cases hf;haveI tD:=JW▸tD;obtain rfl:=bD tD;refine aI (pr.get hx) λ v h1 h2=>?_;exact mO (s:={ s with heap:=h',toks:=k}) (.inl ⟨_,rfl⟩) JV.mapOf.typeIs slot_dict_getitem.lookup (wpAny_getItem_of (s:={ s with heap:=h',toks:=k}) (knd:=strKind W.prog W.w) (agI _ t) JV.mapOf h1 (hQ v Φ' h' _ I (.refl ..) h2)) (gw PG _ _)
  .exact .stuck
 .exact .stuck
theorem KQ:u6 G C (.Ga a b c) fr σ=(evE G C a fr σ).bind λ va σ=>(evE G C b fr σ).bind λ vb σ=>
   (Res.of σ (aE σ va)).bind λ x σ=>(Res.of σ (aE σ vb)).bind λ y σ=>(Res.of σ (eS .le x y)).bind λ r σ=>
    if r then(evE G C c fr σ).bind λ vc σ=>(Res.of σ (aE σ vc)).bind λ z σ=>(Res.of σ (eS .lt y z)).bind λ r σ=>.ok r σ
    else .ok false σ:=by
 unfold u6;rw[wV];cases evE G C a fr σ with
 |ok va aX=>
  simp only[Res.ax];cases evE G C b fr aX with
  |ok vb dG=>
   simp only[Res.ax];cases aE dG va with
   |none=>rfl
   |some x=>
    refine cq (aE dG vb) (λ h2=>?_) (λ y h2=>?_)
    .simp only[Res.of,Res.bind,h2]
    ·
     simp only[Res.of,Res.bind,h2];cases eS .le x y with
     |none=>rfl
     |some r=>
      induction r with
      |false=>rfl
      |true=>
       simp only[if_true];cases evE G C c fr dG with
       |ok vc gc=>
        simp only;cases aE gc vc with
        |none=>rfl
        |some z=>simp only;cases eS .lt y z<;>rfl
       |err=>rfl
       |stuck=>rfl
  |err=>rfl
  |stuck=>rfl
 |err=>rfl
 |stuck=>rfl
theorem le_int(h:eS .le x y=some r):∃i j,x=.int i/\y=.int j:=by
 refine B9 (mL h) λ i j h1 h2 _=>?_;exact⟨i,j,h1,h2⟩
theorem yQ(r:Expr):behindInMarks .Lt r=false:=by cases r<;>first|rfl|exact(congrArg (·&&_) (Bool.and_false _)).trans (Bool.false_and _)
theorem vK{σ:ae}(h:aE σ v=some (.int j)):v=.d (.int j):=by
 induction v with
 |d x=>exact congrArg V.d (bD h)
 |loc m=>obtain⟨_,_,q⟩:=Gp h;cases q
theorem KR(ha:cS W n C sc a l)(hb:cS W n C sc b m)(hc:cS W n C sc c r):yk W n C sc (.Ga a b c) (.Compare l [.LtE,.Lt] [m,r] pos):=by
 intro A e0 af L env s Φ ρ σ fr cx D;refine bO (KQ ..) ?_;refine au.of (P':=λ Q E s=>wpAny (model W.prog W.w) A (eval l env) (λ va aL=>wpAny (model W.prog W.w) A (eval m env) (λ vb bB=>wpAny (model W.prog W.w) A (compareOp .LtE va vb) (λ c dj=>wpAny (model W.prog W.w) A (truthy c) (λ t gy=>
   if t then wpAny (model W.prog W.w) A (eval r env) (λ vc lG=>wpAny (model W.prog W.w) A (compareOp .Lt vb vc) (λ c vd=>wpAny (model W.prog W.w) A (truthy c) Q E vd) E lG) E gy else Q false gy) E dj) E bB) E aL) E s) (λ Q E h=>?_) ?_
 .have e:isTrue (.Compare l [.LtE,.Lt] [m,r] pos) env (eval (.Compare l [.LtE,.Lt] [m,r] pos) env)=(do
    let left ←eval l env
    let rv ←holding [left] (eval m env)
    standAt pos
    let c ←holding [left,rv] (compareOp .LtE left rv)
    release [left,rv] [c]
    if←holding [c,rv] (truthy c) then
     let rv' ←holding [rv] (markedBehindIn .Lt r (eval r env))
     standAt pos
     let c' ←operate [rv,rv'] (compareOp .Lt rv rv')
     holding [c'] (truthy c')
    else pure false):=rfl
  refine bO (e ..) ?_;refine bO (markedBehindIn_of_false (yQ r) ..) ?_;refine ak (cj h (λ va aL av=>ak (eD (cj av (λ vb bB aQ=>ak (gH (ak (eD (cj aQ (λ c dj aO=>ak (wpAny_release (ak (eD (cj aO (λ t gy gz=>?_) λ _ _ x=>x))))) λ _ _ x=>x))))) λ _ _ x=>x))) λ _ _ x=>x);induction t with
  |false=>exact aF gz
  |true=>exact ak (eD (cj gz (λ vc lG iQ=>ak (gH (ak (wpAny_operating (cj iQ (λ c' vd GL=>eD GL) λ _ _ x=>x))))) λ _ _ x=>x))
 .refine au.seq (ha cx D) λ va ya aX cJ av k₁ oU du aW dY=>?_;refine au.seq (hb cx (D.step aW du)) λ vb yb dG ff aQ k₂ AN cZ cT jq=>?_;refine au.opt λ x hx=>au.opt λ y hy=>au.opt λ t ht=>?_;have q:∀(Q:Value->Shared->Prop) (E:Value->Shared->Prop),Q (.bool t) { s with heap:=aQ,toks:=k₂}->wpAny (model W.prog W.w) A (compareOp .LtE va vb) Q E { s with heap:=aQ,toks:=k₂}:=λ Q E hQ=>qY (s:={ s with heap:=aQ,toks:=k₂}) (op:=.le) cZ (jr cx) (cZ.aE (VR.mono cT.ext dY) hx) (cZ.aE jq hy) ht hQ;refine gq (le_int ht) λ i j z3 z4=>?_;obtain rfl:=z3;obtain rfl:=z4;have YJ:=vK hy;subst YJ;induction t with
  |false=>exact au.ok λ Q E hQ=>q _ _ (kB (hQ _ ff aQ k₂ cZ (.refl ..) rfl))
  |true=>
   refine au.of (P':=λ Q E gy=>wpAny (model W.prog W.w) A (eval r env) (λ vc lG=>wpAny (model W.prog W.w) A (compareOp .Lt vb vc) (λ c vd=>wpAny (model W.prog W.w) A (truthy c) Q E vd) E lG) E gy) (λ Q E h=>q _ _ (kB (by simpa using h))) ?_;refine au.seq (P2:=λ vc Q E lG=>wpAny (model W.prog W.w) A (compareOp .Lt vb vc) (λ c vd=>wpAny (model W.prog W.w) A (truthy c) Q E vd) E lG) (hc cx ((D.step aW du).step cT cZ)) λ vc yc gc d6 aO cM kg fE bF q6=>?_;refine au.opt λ z hz=>au.opt λ t ht=>au.ok λ Q E hQ=>?_;exact qY (s:={ s with heap:=aO,toks:=cM}) (op:=.lt) fE (jr cx) (.fe (RD.mono bF.ext jq)) (fE.aE q6 hz) ht (kB (hQ _ d6 aO cM fE (.refl ..) rfl))
end
section
variable {W:Wd} {n:Nat} {C:aG} {A:Around} {e0:Env} {af:List Env} {L:Addr} {env:Env} {sc:Sc} {s:Shared} {Φ:Fz} {ρ:List Addr} {σ:ae} {fr:agq}
section
variable {σ:ae}{fr aR:agq}{ts:List Tg}{t:Tg}{es:List Expr}
theorem Dy.alive(D:Dy W Φ ρ σ (e0::af) env sc.vars fr hs)(hT:hs.get? T=none):T≠env.locals/\(∀x,env.cells.lookup x≠some T)/\T∉ρ/\T∉cK (e0::af):=by
 refine⟨?_,λ x hx=>?_,λ h=>?_,λ h=>?_⟩
 .rintro rfl;obtain⟨m,o,_,_,e,_⟩:=D.eC.ns;rw[hT] at e;cases e
 .refine dd (D.eC.cell x T hx) λ z1 _=>?_;obtain⟨ov,o,e,_⟩:=z1;rw[hT] at e;cases e
 .refine bK (D.inv.live h) λ o e=>?_;rw[hT] at e;cases e
 .refine pP (D.pZ.mem h) λ _ _ o e _=>?_;rw[hT] at e;cases e
theorem Dy.other(hT:T≠env.locals/\(∀x,env.cells.lookup x≠some T)/\T∉ρ/\T∉cK (e0::af))(D:Dy W Φ ρ σ (e0::af) env sc.vars fr h)(l6:Φ T=none)(k:∀a o,a≠T->h.get? a=some o->h'.get? a=some o):Dy W Φ ρ σ (e0::af) env sc.vars fr h':=by
 refine oM hT λ h1 h2 h3 h4=>?_;refine⟨⟨D.inv.base,λ a o e=>k a o (λ q=>by rw[q,l6] at e;cases e) (D.inv.fe a o e),D.inv.len,λ i a c p q=>(D.inv.cell i a c p q).mono (λ _ _ q=>q) (λ o q=>k a o (λ r=>h3 (r▸dH p)) q),D.inv.nodup,D.inv.apart⟩,λ me uX=>?_,?_⟩
 .obtain⟨k',L',o,p1,p2,p3,p4,p5⟩:=D.pZ me uX;exact⟨k',L',o,p1,k L' o (λ r=>h4 (r▸kx.mpr ⟨me,uX,p1⟩)) p2,p3,p4,p5⟩
 .refine D.eC.kp (λ _ _ q=>q) (λ _ _ _=>rfl) λ a ha o e=>⟨o.slots,?_⟩;refine k a o ?_ e;rcases ha with rfl|⟨x,hx⟩
  .exact Ne.symm h1
  .rintro rfl;exact h2 x hx
def RV(sc:Sc)(env:Env)(X:Addr->Prop)(i:Nat):Prop:=∀x,sc.vars[i]?=some (some x)->(env.kindOf x=some .local->X env.locals)/\(∀c,env.kindOf x=some .cell->env.cells.lookup x=some c->X c)
theorem qe(i:Nat):RV sc env (own env) i:=λ x _=>⟨λ _=>.inl rfl,λ c _ hc=>.inr ⟨x,hc⟩⟩
theorem qf{v:V}(h:asg σ (.tup ts) v fr=some aR):∃xs,(aE σ v=some (.tuple xs)\/aE σ v=some (.list xs))/\i8 σ ts xs fr=some aR:=by
 replace h:(match aE σ v with|some (.tuple xs)=>i8 σ ts xs fr|some (.list xs)=>i8 σ ts xs fr|_=>none)=some aR:=h;generalize aE σ v=o at h ⊢;cases o with
 |none=>cases h
 |some d=>
  cases d with
  |tuple xs=>exact⟨xs,.inl rfl,h⟩
  |list xs=>exact⟨xs,.inr rfl,h⟩
  |_=>cases h
theorem kK{xs:List PyData}(h:i8 σ (t::ts) xs fr=some aR):∃x xs' rY,xs=x::xs'/\asg σ t (.d x) fr=some rY/\i8 σ ts xs' rY=some aR:=by
 cases xs with
 |nil=>cases h
 |cons x xs=>
  replace h:(match asg σ t (.d x) fr with|some aR=>i8 σ ts xs aR|none=>none)=some aR:=h;refine⟨x,xs,?_⟩;generalize asg σ t (.d x) fr=o at h ⊢;induction o with
  |none=>cases h
  |some f=>exact⟨f,rfl,rfl,h⟩
theorem tE{i:Nat}{x:PyData}{xs:List PyData}(hi:i<fr.length):i8 σ (.var i::ts) (x::xs) fr=i8 σ ts xs (fr.set i (some (.d x))):=by
 show(match wR fr i (.d x) with|some aR=>i8 σ ts xs aR|none=>none)=_;rw[gu,if_pos hi]
theorem q7(h:AM sc (t::ts) es=true):∃e r,es=e::r/\(agB e=true/\mz sc t e=true)/\AM sc ts r=true:=by
 cases es with
 |nil=>exact Bool.noConfusion h
 |cons e r=>exact⟨e,r,rfl,cf (cf h).1,(cf h).2⟩
end
mutual
theorem oV:∀(t:Tg) (e:Expr),mz sc t e=true->∀{A:Around} {e0:Env} {af:List Env} {L:Addr} {env:Env} {s:Shared} {Φ:Fz} {ρ:List Addr} {σ:ae} {fr aR:agq} {n:Nat} {u:Value} {v:V} {X:Addr->Prop} (p:Nat->Bool),Cx W n A e0 af L env sc->Dy W Φ ρ σ (e0::af) env sc.vars fr s.heap->c7 p t=true->(∀i,p i=true->RV sc env X i)->VR Φ ρ u v->asg σ t v fr=some aR->∀{Q:Unit->Shared->Prop} {E:Value->Shared->Prop},(∀h' k,Dy W Φ ρ σ (e0::af) env sc.vars aR h'->Kp X (cK (e0::af)) s.heap h'->Q () { s with heap:=h',toks:=k})->wpAny (model W.prog W.w) A (assign e env u) Q E s
 |.var i,e,h,A,e0,af,L,env,s,Φ,ρ,σ,fr,aR,n,u,v,X,p,cx,D,hp,hX,r,ha,Q,E,hQ=>by
  replace h:=aw h;obtain⟨id,⟨px,rfl⟩,h⟩:=h;obtain⟨hv,hd⟩:=Sc.dz h;obtain⟨e7,rfl⟩:=dr ((gu v fr i).symm.trans ha);have hc:=hX i hp id hv;exact wpAny_assign_Name (Gx cx D hv r hc.1 hc.2 λ h' k D' K'=>hQ h' k D' K')
 |.tup ts,e,h,A,e0,af,L,env,s,Φ,ρ,σ,fr,aR,n,u,v,X,p,cx,D,hp,hX,r,ha,Q,E,hQ=>by
  replace h:=aw h;obtain⟨es,⟨k0,px,rfl⟩,h⟩:=h
  .obtain⟨xs,AS,ha⟩:=qf ha;rcases AS with AS|AS
   .obtain⟨a,vs,m,rfl,hg,rs⟩:=(D.inv.aE r AS).tuple D.inv.fe;have agw:=tF ts es xs h ha;have uY:(assignEach es env).length=es.length:=(fq ts es h env).1;refine wpAny_assign_Tuple cx.handled ⟨_,hg,rfl,m,rfl⟩ ?_ (fq ts es h env).2 λ av hk=>?_
    .have:=rs.length
     simp only[List.size_toArray];exact uY.trans (agw.trans this.symm)
    .have l7:∀b o,s.heap.get? b=some o->av.get? b=some o:=λ b o q=>hk b o (dI (eE q)) q;have:=xc ts es h (s:={ s with heap:=av}) p cx (D.step (agA.bo l7) (D.inv.ext l7)) (by simpa[Gy,Gz] using hp) hX rs ha (Q:=Q) (E:=E) λ h' k D' K'=>hQ h' k D' ((Kp.bo l7).trans K')
     simpa using this
   .obtain⟨a,vs,m,rfl,hg,rs⟩:=(D.inv.aE r AS).list D.inv.fe;have agw:=tF ts es xs h ha;have uY:(assignEach es env).length=es.length:=(fq ts es h env).1;refine yN cx.handled ⟨_,hg,rfl,m,rfl⟩ ?_ (fq ts es h env).2 λ av hk=>?_
    .have:=rs.length
     simp only[List.size_toArray];exact uY.trans (agw.trans this.symm)
    .have l7:∀b o,s.heap.get? b=some o->av.get? b=some o:=λ b o q=>hk b o (dI (eE q)) q;have:=xc ts es h (s:={ s with heap:=av}) p cx (D.step (agA.bo l7) (D.inv.ext l7)) (by simpa[Gy,Gz] using hp) hX rs ha (Q:=Q) (E:=E) λ h' k D' K'=>hQ h' k D' ((Kp.bo l7).trans K')
     simpa using this
theorem xc:∀(ts:List Tg) (es:List Expr),AM sc ts es=true->∀{A:Around} {e0:Env} {af:List Env} {L:Addr} {env:Env} {s:Shared} {Φ:Fz} {ρ:List Addr} {σ:ae} {fr aR:agq} {n:Nat} {vs:List Value} {xs:List PyData} {X:Addr->Prop} (p:Nat->Bool),Cx W n A e0 af L env sc->Dy W Φ ρ σ (e0::af) env sc.vars fr s.heap->mQ p ts=true->(∀i,p i=true->RV sc env X i)->dF Φ vs xs->i8 σ ts xs fr=some aR->∀{Q:Unit->Shared->Prop} {E:Value->Shared->Prop},(∀h' k,Dy W Φ ρ σ (e0::af) env sc.vars aR h'->Kp X (cK (e0::af)) s.heap h'->Q () { s with heap:=h',toks:=k})->wpAny (model W.prog W.w) A (assignInOrder ((assignEach es env).map (·.2)) vs) Q E s
 |[],es,h,A,e0,af,L,env,s,Φ,ρ,σ,fr,aR,n,vs,xs,X,p,cx,D,hp,hX,r,ha,Q,E,hQ=>by
  obtain rfl:=List.isEmpty_iff.mp (show es.isEmpty=true from h);induction xs with
  |cons=>cases ha
  |nil=>
   obtain rfl:=bD ha;have:=hQ s.heap s.toks D (.refl ..)
   exact aF this
 |t::ts,es,h,A,e0,af,L,env,s,Φ,ρ,σ,fr,aR,n,vs,xs,X,p,cx,D,hp,hX,r,ha,Q,E,hQ=>by
  obtain⟨e,es,rfl,g⟩:=q7 h;obtain⟨x,xs,rY,rfl,av,hb⟩:=kK ha;obtain⟨_,_,rfl,r1,r2⟩:=r.i;rw[l8 g.1.1];have hp:=cf hp;refine ak (eD (oV t e g.1.2 p cx D hp.1 hX (v:=.d x) r1 av λ h' k D' K'=>?_));exact xc ts es g.2 (s:={ s with heap:=h',toks:=k}) p cx D' hp.2 hX r2 hb λ cb k' KS UP=>hQ cb k' KS (K'.trans UP)
theorem tF:∀(ts:List Tg) (es:List Expr) (xs:List PyData),AM sc ts es=true->∀{σ:ae} {fr aR:agq},i8 σ ts xs fr=some aR->es.length=xs.length
 |[],es,xs,h,σ,fr,aR,ha=>by
  obtain rfl:=List.isEmpty_iff.mp (show es.isEmpty=true from h);induction xs with
  |cons=>cases ha
  |nil=>rfl
 |t::ts,es,xs,h,σ,fr,aR,ha=>by
  obtain⟨e,es,rfl,g⟩:=q7 h;obtain⟨x,xs,rY,rfl,av,hb⟩:=kK ha;exact congrArg (·+1) (tF ts es xs g.2 hb)
theorem fq:∀(ts:List Tg) (es:List Expr),AM sc ts es=true->∀env:Env,(assignEach es env).length=es.length/\(assignEach es env).findIdx? (·.1)=none
 |[],es,h,env=>by
  obtain rfl:=List.isEmpty_iff.mp (show es.isEmpty=true from h);exact⟨rfl,rfl⟩
 |t::ts,es,h,env=>by
  obtain⟨e,es,rfl,g⟩:=q7 h;have ih:=fq ts es g.2 env;refine bO (l8 g.1.1 ..) ?_;refine⟨by simp[ih.1],?_⟩;rw[List.findIdx?_cons];simp[ih.2]
end
section
variable {Q:Option Value->Shared->Prop}{E:Value->Shared->Prop}
inductive kL(Φ:Fz)(h:Heap)(it:Addr):List Value->Prop
 |list {a:Addr} {vs:List Value} {m i:Nat}:Φ a=some (dE vs m)->h.get? a=some (dE vs m)->h.IsListIter it a i->kL Φ h it (vs.drop i)
 |tuple {a:Addr} {vs:List Value} {m i:Nat}:Φ a=some (gG vs m)->h.get? a=some (gG vs m)->h.IsTupleIter it a i->kL Φ h it (vs.drop i)
theorem kL.keep(x:kL Φ h it vs)(oQ:∀a o,Φ a=some o->Φ' a=some o)(hf:∀a o,Φ' a=some o->h'.get? a=some o)(hi:∀o,h.get? it=some o->h'.get? it=some o):kL Φ' h' it vs:=by
 induction x with
 |list h1 h2 h3=>obtain⟨o,e,r⟩:=h3;exact .list (oQ _ _ h1) (hf _ _ (oQ _ _ h1)) ⟨o,hi o e,r⟩
 |tuple h1 h2 h3=>obtain⟨o,e,r⟩:=h3;exact .tuple (oQ _ _ h1) (hf _ _ (oQ _ _ h1)) ⟨o,hi o e,r⟩
theorem qg(I:Inv W Φ ρ σ s.heap)(r:RD Φ u x)(hx:agt x=some xs){Q:Value->Shared->Prop}(hQ:∀(o:Obj) (vs:List Value),dF Φ vs xs->o.isFreed=false->kL Φ (s.heap.push o) s.heap.objs.size vs->Q (.ref s.heap.objs.size) { s with heap:=s.heap.push o}):wpAny (model W.prog W.w) A (pyIter u) Q E s:=by
 cases r<;>simp only[agt,reduceCtorEq] at hx<;>cases hx
 .rename_i a vs m h1 h2;have hg:=I.fe _ _ h1;refine wpAny_pyIter_tuple ⟨_,hg,rfl,m,rfl⟩ (hQ _ vs h2 rfl ?_);exact kL.tuple (i:=0) h1 (dA _ hg) ⟨_,d5 _ rfl,rfl,rfl⟩
 .rename_i a vs m h1 h2;have hg:=I.fe _ _ h1;refine wpAny_pyIter_list ⟨_,hg,rfl,m,rfl⟩ (hQ _ vs h2 rfl ?_);exact kL.list (i:=0) h1 (dA _ hg) ⟨_,d5 _ rfl,rfl,rfl⟩
theorem xd(x:kL Φ s.heap it (v::vs))(hit:Φ it=none)(hQ:∀h',kL Φ h' it vs->Heap.SameBut it s.heap h'->(∃o,h'.get? it=some o)->Q (some v) { s with heap:=h'}):wpAny (model W.prog W.w) A (pyNext (.ref it)) Q E s:=by
 generalize hl:v::vs=l at x;induction x with
 |list h1 h2 h3=>
  rename_i a ws m i;have e7:i<ws.length:=by
   rcases Nat.lt_or_ge i ws.length with h|h
   .exact h
   .rw[List.drop_eq_nil_of_le h] at hl;cases hl
  rw[List.drop_eq_getElem_cons e7] at hl;injection hl with e1 e2
  refine wpAny_pyNext_list_item (x:=v) h3 ⟨_,h2,rfl,m,rfl⟩ (by simp[e7,e1]) λ h' hi hs=>?_;have ha:a≠it:=neN h1 hit;rw[e2] at hQ;exact hQ h' (.list h1 ((hs.2 a ha).trans h2) hi) hs (let⟨o,e,_⟩:=hi;⟨o,e⟩)
 |tuple h1 h2 h3=>
  rename_i a ws m i;have e7:i<ws.length:=by
   rcases Nat.lt_or_ge i ws.length with h|h
   .exact h
   .rw[List.drop_eq_nil_of_le h] at hl;cases hl
  rw[List.drop_eq_getElem_cons e7] at hl;injection hl with e1 e2
  refine wpAny_pyNext_tuple_item (x:=v) h3 ⟨_,h2,rfl,m,rfl⟩ (by simp[e7,e1]) λ h' hi hs=>?_;have ha:a≠it:=neN h1 hit;rw[e2] at hQ;exact hQ h' (.tuple h1 ((hs.2 a ha).trans h2) hi) hs (let⟨o,e,_⟩:=hi;⟨o,e⟩)
theorem AU(hh:A.handled=none)(x:kL Φ s.heap it [])(hQ:∀h',Heap.ExtBut it s.heap h'->Q none { s with heap:=h'}):wpAny (model W.prog W.w) A (pyNext (.ref it)) Q E s:=by
 generalize hl:([]:List Value)=l at x;induction x with
 |list h1 h2 h3=>
  rename_i a ws m i;have:ws.length<=i:=by
   rcases Nat.lt_or_ge i ws.length with h|h
   .rw[List.drop_eq_getElem_cons h] at hl;cases hl
   .exact h
  exact wpAny_pyNext_list_end hh h3 ⟨_,h2,rfl,m,rfl⟩ (by simp[this]) hQ
 |tuple h1 h2 h3=>
  rename_i a ws m i;have:ws.length<=i:=by
   rcases Nat.lt_or_ge i ws.length with h|h
   .rw[List.drop_eq_getElem_cons h] at hl;cases hl
   .exact h
  exact wpAny_pyNext_tuple_end hh h3 ⟨_,h2,rfl,m,rfl⟩ (by simp[this]) hQ
theorem xe(x:kL Φ s.heap it vs){Q:Value->Shared->Prop}(hQ:Q (.ref it) s):wpAny (model W.prog W.w) A (pyIter (.ref it)) Q E s:=by
 induction x with
 |list h1 h2 h3=>exact wpAny_pyIter_listiter h3 hQ
 |tuple h1 h2 h3=>exact wpAny_pyIter_tupleiter h3 hQ
set_option backward.match.sparseCases true in
theorem mS(ho:s.heap.get? it=some o)(hc:o.cls=.type c)(hn:(["enumerate","zip","dict_itemiterator","dict_reverseitemiterator","odict_iterator","itertools.zip_longest","itertools.pairwise"].contains c)=false){Q:Unit->Shared->Prop}(hQ:Q () s):wpAny (model W.prog W.w) A (letOwnedTupleGo e (.ref it) v) Q E s:=by
 have key:wpAny (model W.prog W.w) A (do
   let(.ref r,.ref a):=(Value.ref it,v)|return
   let o ←load r
   match o.cls,o.data with
   |.type n,.fields vs=>
    if["enumerate","zip","dict_itemiterator","dict_reverseitemiterator","odict_iterator","itertools.zip_longest","itertools.pairwise"].contains n&&vs[0]?==some (rawInt a) then
     rule "for.unpacks-the-owned-tuple"
     updateField r 0 .none
   |_,_=>pure ()) Q E s:=by
  induction v<;>try exact aF hQ
  rename_i a;refine ak (wpAny_load ho ?_);refine bO (hc ..) ?_;cases o.data<;>try exact aF hQ
  simp only[hn,Bool.false_and,Bool.false_eq_true,if_false];exact aF hQ
 cases e with
 |Tuple=>exact key
 |List=>exact key
 |_=>exact(aF hQ)
theorem GO(x:kL Φ s.heap it vs){Q:Unit->Shared->Prop}(hQ:Q () s):wpAny (model W.prog W.w) A (letOwnedTupleGo e (.ref it) v) Q E s:=by
 induction x with
 |list h1 h2 h3=>obtain⟨o,ho,hc,_⟩:=h3;exact mS ho hc (by decide) hQ
 |tuple h1 h2 h3=>obtain⟨o,ho,hc,_⟩:=h3;exact mS ho hc (by decide) hQ
end
end
theorem dv:∀{names:List (Str×NameKind)} {x:Str} {k:NameKind},oS names=true->(x,k)∈names->names.lookup x=some k
 |[],_,_,_,h=>by cases h
 |(y,j)::r,x,k,hn,h=>by
  simp only[Cq,dN,fX,Bool.not_eq_true'] at hn;rw[List.lookup_cons];rcases e8.mp h with e|h
  .cases e;simp
  .have:=hn.1 _ h
   have q:(x==y)=false:=by simpa using this
   rw[q];exact dv hn.2 h
theorem rZ:∀{names:List (Str×NameKind)} {i j:Nat} {x:Str} {k l:NameKind},oS names=true->names[i]?=some (x,k)->names[j]?=some (x,l)->i=j
 |[],i,j,x,k,l,_,h,_=>by simp at h
 |(y,m)::r,0,0,x,k,l,hn,h,h'=>rfl
 |(y,m)::r,0,j+1,x,k,l,hn,h,h'=>by
  simp only[Cq,dN,fX,Bool.not_eq_true'] at hn;simp at h h';have:=hn.1 _ (dH h')
  simp[h.1] at this
 |(y,m)::r,i+1,0,x,k,l,hn,h,h'=>by
  simp only[Cq,dN,fX,Bool.not_eq_true'] at hn;simp at h h';have:=hn.1 _ (dH h)
  simp[h'.1] at this
 |(y,m)::r,i+1,j+1,x,k,l,hn,h,h'=>by
  simp only[Cq,dN] at hn;simp at h h';rw[rZ hn.2 h h']
theorem kh{α:Type}:∀{l:List (Str×α)} {x:Str} {c:α},(x,c)∈l->∃c',l.lookup x=some c'
 |[],_,_,h=>by cases h
 |(y,d)::r,x,c,h=>by
  refine bO (List.lookup_cons ..) ?_;refine mH (x==y) (λ hq=>?_) (λ hq=>?_)
  .exact⟨d,rfl⟩
  ·
   rcases e8.mp h with e|h
   .cases e;simp at hq
   .exact kh h
theorem oW(f:Str×NameKind->List (Str×Addr)->Sem (ForInStep (List (Str×Addr))))(hf:∀name kind cs,f (name,kind) cs=if kind==.free then(do let a ←cellOf env name;pure (.yield ((name,a)::cs))) else pure (.yield cs)):∀(names:List (Str×NameKind)) (acc:List (Str×Addr)),(∀x∈names,x.2=.free->∃c,env.cells.lookup x.1=some c) ->
   ∃cl,forIn names acc f=pure cl/\(∀x c,(x,c)∈cl->(x,c)∈acc\/env.cells.lookup x=some c)/\(∀p∈acc,p∈cl)/\∀x∈names,x.2=.free->∃c,(x.1,c)∈cl
 |[],acc,_=>⟨acc,by exact bO (List.forIn_nil ..) rfl,λ _ _ h=>.inl h,λ _ h=>h,λ _ h=>nomatch h⟩
 |(name,kind)::r,acc,h=>by
  refine bO (List.forIn_cons ..) ?_;refine bO (hf ..) ?_;refine mH (kind==.free) (λ hk=>?_) (λ hk=>?_)
  ·
   have ji:kind=.free:=by simpa using hk
   refine bK (h (name,kind) dC ji) λ c hc=>?_;refine pQ (oW f hf r ((name,c)::acc) λ x hx=>h x (d8 _ hx)) λ cl h1 h2 h3 h4=>?_;refine⟨cl,?_,λ x d hm=>?_,λ p hp=>h3 p (d8 _ hp),λ x hx nG=>?_⟩
   .simp only[if_true];have:cellOf env name=pure c:=by unfold cellOf;exact bO (hc ..) rfl
    refine bO (this ..) ?_;simp only[pure_bind];exact h1
   .rcases h2 x d hm with hm|hm
    .rcases e8.mp hm with e|hm
     .cases e;exact .inr hc
     .exact .inl hm
    .exact .inr hm
   .rcases e8.mp hx with rfl|hx
    .exact⟨c,h3 _ dC⟩
    .exact h4 x hx nG
  ·
   refine pQ (oW f hf r acc λ x hx=>h x (d8 _ hx)) λ cl h1 h2 h3 h4=>?_;refine⟨cl,?_,h2,h3,λ x hx nG=>?_⟩
   .simp only[Bool.false_eq_true,if_false,pure_bind];exact h1
   .rcases e8.mp hx with rfl|hx
    .simp at nG;simp[nG] at hk
    .exact h4 x hx nG
theorem js(h:∀x∈aa.names,x.2=.free->∃c,env.cells.lookup x.1=some c):∃cl,closureFor aa env=pure cl/\(∀x c,cl.lookup x=some c->env.cells.lookup x=some c)/\∀x∈aa.names,x.2=.free->∃c,cl.lookup x.1=some c:=by
 refine pQ (oW (env:=env) (λ x cs=>if x.2==.free then(do let a ←cellOf env x.1;pure (.yield ((x.1,a)::cs))) else pure (.yield cs)) (λ _ _ _=>rfl) aa.names [] h) λ cl h1 h2 h3 h4=>?_;refine⟨cl,?_,λ x c hc=>?_,λ x hx hf=>?_⟩
 .unfold closureFor;show(forIn aa.names [] _ >>= λ cs=>pure cs)=_;have e:(forIn aa.names ([]:List (Str×Addr)) λ(x:Str×NameKind) (r:List (Str×Addr))=>(match x with
    |(name,kind)=>if(kind==NameKind.free)=true then do let __do_lift ←cellOf env name;pure (ForInStep.yield ((name,__do_lift)::r)) else pure (ForInStep.yield r):Sem (ForInStep (List (Str×Addr)))))=pure cl:=h1
  rw[e];rfl
 .rcases h2 x c (mem_of_lookup hc) with q|q
  .cases q
  .exact q
 .refine bK (h4 x hx hf) λ c hc=>?_;exact kh hc
theorem mT{names:List (Str×NameKind)}{p:Str->Bool}:∀{x:Str} {k:NameKind},names.lookup x=some k ->
  (names.map λ(n,k)=>if(k==NameKind.free&&p n) then(n,NameKind.cell) else(n,k)).lookup x=some (if(k==NameKind.free&&p x) then .cell else k):=by
 induction names with
 |nil=>intro x k h;simp at h
 |cons q r ih=>
  obtain⟨n,j⟩:=q;intro x k h;have e:(List.map (λ(x:Str×NameKind)=>match x with|(n,k)=>if(k==NameKind.free&&p n)=true then(n,NameKind.cell) else(n,k)) ((n,j)::r)) =
   (n,if(j==NameKind.free&&p n) then .cell else j)::List.map (λ(x:Str×NameKind)=>match x with|(n,k)=>if(k==NameKind.free&&p n)=true then(n,NameKind.cell) else(n,k)) r:=by
   refine bO (List.map_cons ..) ?_;congr 1;dsimp only;split<;>rfl
  refine bO (e ..) ?_;refine bO (List.lookup_cons ..) ?_;rw[List.lookup_cons] at h;refine mH (x==n) (λ hx=>?_) (λ hx=>?_)
  ·
   haveI h:=hx▸h;have:x=n:=by simpa using hx
   refine bO this ?_;obtain rfl:=bD h;rfl
  .haveI h:=hx▸h;exact ih h
section
variable {W:Wd} {n:Nat} {C:aG} {A:Around} {e0:Env} {af:List Env} {L:Addr} {env:Env} {sc:Sc} {s:Shared} {Φ:Fz} {ρ:List Addr} {σ:ae} {fr:agq}
theorem ki(cx:Cx W n A e0 af L env sc)(aa:Scope):(relabel aa env).names=(aq sc aa).names:=by
 unfold relabel aq;dsimp only;refine List.map_congr_left λ x hx=>?_;obtain⟨y,k⟩:=x;dsimp only;unfold Env.kindOf;rw[cx.kind,cx.names];simp
structure jM(sc:Sc)(aa:Scope):Prop where
 kind:aa.kind=.function
 nodup:oS aa.names=true
 xf:∀y∈aa.names,y.2≠.cell
 free:∀y∈aa.names,y.2=.free->sc.names.lookup y.1=some .cell/\some y.1∈sc.vars
theorem hY(h:fh sc aa=true):jM sc aa:=by
 simp only[fh,dN,fX,beq_iff_eq] at h;refine dd h λ z1 h3=>?_;obtain⟨h1,h2⟩:=z1;refine⟨h1,h2,λ y hy=>?_,λ y hy hf=>?_⟩
 .have:=(h3 y hy).1;simpa using this
 .have:=(h3 y hy).2
  rw[hf] at this;simpa using this
theorem kN(cx:Cx W n A e0 af L env sc)(D:Dy W Φ ρ σ (e0::af) env sc.vars fr h)(S:jM sc aa):∀x∈aa.names,x.2=.free->∃c,env.cells.lookup x.1=some c:=λ x hx hf=>by
 refine dd (S.free x hx hf) λ h1 h2=>?_;refine bK (List.getElem?_of_mem h2) λ i hi=>?_;refine aI (D.eC.val i x.1 hi) λ ov hh _=>?_;rcases hh with⟨hk,_⟩|⟨_,c,hc,_⟩
 .unfold Env.kindOf at hk;rw[cx.names,h1] at hk;cases hk
 .exact⟨c,hc⟩
theorem sN(cx:Cx W n A e0 af L env sc)(S:jM sc aa)(cl:List (Str×Addr))(Cc:Addr):Cx W n A e0 af L (compEnvC aa cl Cc env) (aq sc aa):=
 ⟨cx.frames,cx.f0,cx.f,cx.handled,cx.depth,cx.units,S.kind,cx.glob,cx.blt,ki cx aa⟩
theorem lH(cx:Cx W n A e0 af L env sc)(D:Dy W Φ ρ σ (e0::af) env sc.vars fr h)(S:jM sc aa)(oX:∀x c,cl.lookup x=some c->env.cells.lookup x=some c)(vf:∀x∈aa.names,x.2=.free->∃c,cl.lookup x.1=some c)(hn:h.Ns Cc m)(l6:Φ Cc=none)(JW:Cc∉ρ)(eZ:∀x,env.cells.lookup x≠some Cc):wY Φ ρ (compEnvC aa cl Cc env) (aq sc aa).vars (fr++List.replicate aa.names.length none) h:=by
 have tG:∀x k,aa.names.lookup x=some k->(compEnvC aa cl Cc env).kindOf x=some (if(k==.free&&sc.names.lookup x==some NameKind.cell) then .cell else k):=λ x k hk=>by
  show(relabel aa env).names.lookup x=_;rw[ki cx];exact mT (p:=λ n=>sc.names.lookup n==some NameKind.cell) hk
 have agw:=D.eC.len;have KU:∀(i:Nat) (x:Str),i<sc.vars.length->(aq sc aa).vars[i]?=some (some x)->sc.vars[i]?=some (some x)/\aa.names.lookup x=some .free/\sc.names.lookup x=some .cell:=λ i x hi hx=>by
  unfold aq at hx;dsimp only at hx;rw[i0 (by simpa using hi),List.getElem?_map] at hx;refine cq (sc.vars[i]?) (λ hq=>?_) (λ o hq=>?_)
  .rw[hq] at hx;cases hx
  ·
   rw[hq] at hx;induction o with
   |none=>simp at hx
   |some y=>
    simp only[Option.map_some,Option.some.injEq] at hx;split at hx
    .rename_i hc;cases hx;simp only[dN,beq_iff_eq] at hc;exact⟨rfl,hc.1,hc.2⟩
    .cases hx
 have Cy:∀(i:Nat) (x:Str),sc.vars.length<=i->(aq sc aa).vars[i]?=some (some x)->aa.names[i - sc.vars.length]?=some (x,.local):=λ i x hi hx=>by
  unfold aq at hx;dsimp only at hx;rw[ot (by simpa using hi),bR,List.getElem?_map] at hx;refine cq (aa.names[i - sc.vars.length]?) (λ hq=>?_) (λ o hq=>?_)
  .rw[hq] at hx;cases hx
  ·
   rw[hq] at hx;obtain⟨y,k⟩:=o;simp only[Option.map_some,Option.some.injEq] at hx;split at hx
   .rename_i hc;cases hx;have:k=.local:=by simpa using hc
    rw[this]
   .cases hx
 refine⟨⟨m,hn⟩,l6,JW,λ x c hc=>?_,λ x y c h1 h2=>D.eC.inj x y c (oX x c h1) (oX y c h2),λ i x hx=>?_,λ i j x h1 h2=>?_,?_⟩
 .refine oM (D.eC.cell x c (oX x c hc)) λ a1 a2 a3 a4=>?_;exact⟨a1,a2,a3,λ q=>eZ x (by rw[oX x c hc];exact congrArg some q)⟩
 .by_cases hi:i<sc.vars.length
  .refine tc (KU i x hi hx) λ h1 h2 h3=>?_;refine aI (D.eC.val i x h1) λ ov hh hr=>?_;refine⟨ov,?_,λ v hv=>hr v ?_⟩
   .rcases hh with⟨hk,_⟩|⟨_,c,hc,q⟩
    .unfold Env.kindOf at hk;rw[cx.names,h3] at hk;cases hk
    .refine bK (vf (x,.free) (mem_of_lookup h2) rfl) λ c' JR=>?_;have:=oX _ _ JR
     rw[hc] at this;cases this;exact .Pn (by rw[tG x _ h2,h3];rfl) c JR q
   .rwa [i0 (by exact Nat.lt_of_lt_of_eq hi agw.symm)] at hv
  .have h2:=dv S.nodup (dH (Cy i x (by exact jI hi) hx));refine⟨m x,.loc (by rw[tG x _ h2];rfl) m hn rfl,λ v hv=>?_⟩
   .rw[ot (by exact Nj agw hi),List.getElem?_replicate] at hv;split at hv<;>cases hv
 .by_cases hi:i<sc.vars.length
  .refine tc (KU i x hi h1) λ a1 a2 a3=>?_;by_cases hj:j<sc.vars.length
   .refine tc (KU j x hj h2) λ b1 _ _=>?_;exact D.eC.nodup i j x a1 b1
   .have:=dv S.nodup (dH (Cy j x (by exact jI hj) h2))
    rw[a2] at this;cases this
  .have a1:=Cy i x (by exact jI hi) h1;by_cases hj:j<sc.vars.length
   .refine tc (KU j x hj h2) λ _ b2 _=>?_;have:=dv S.nodup (dH a1)
    rw[b2] at this;cases this
   .have:=rZ S.nodup a1 (Cy j x (by exact jI hj) h2)
    exact TA hi hj this
 .unfold aq;simp[agw]
theorem qh(cx:Cx W n A e0 af L env sc)(i:Nat)(h:bk (aq sc aa) i=true):RV (aq sc aa) (compEnvC aa cl Cc env) (·=Cc) i:=by
 intro x hx;unfold bk at h;rw[hx] at h;have hk:(compEnvC aa cl Cc env).kindOf x=some .local:=by
  show(relabel aa env).names.lookup x=_;rw[ki cx];simpa using h
 exact⟨λ _=>rfl,λ c hc=>by rw[hk] at hc;cases hc⟩
def mU(W:Wd)(n:Nat)(C:aG)(sc:Sc)(xs:List E)(es:List Expr):Prop:=
 ∀{A:Around} {e0:Env} {af:List Env} {L:Addr} {env:Env} {s:Shared} {Φ:Fz} {ρ:List Addr} {σ:ae} {fr:agq},Cx W n A e0 af L env sc->Dy W Φ ρ σ (e0::af) env sc.vars fr s.heap ->
  pY W A (e0::af) L ρ (forIn es true λ c r=>if r=true then do let ok ←isTrue c env (eval c env);pure (ForInStep.yield ok) else pure (ForInStep.yield r)) Φ s ((dg W.G C xs fr σ).bind λ v σ=>Res.of σ (aP v)) DS
theorem KW:mU W n C sc [] []:=by
 intro A e0 af L env s Φ ρ σ fr cx D;exact au.ok (σ:=σ) λ Q E hQ=>aF (hQ _ Φ s.heap s.toks D.inv (.refl ..) rfl)
theorem r4(env:Env):∀es:List Expr,(forIn es false λ c r=>if r=true then do let ok ←isTrue c env (eval c env);pure (ForInStep.yield ok) else pure (ForInStep.yield r):Sem Bool)=pure false
 |[]=>by rw[List.forIn_nil]
 |e::es=>by
  rw[List.forIn_cons];simp only[Bool.false_eq_true,if_false,pure_bind];exact r4 env es
theorem GP(h:yk W n C sc x e)(hr:mU W n C sc xs es):mU W n C sc (x::xs) (e::es):=by
 intro A e0 af L env s Φ ρ σ fr cx D;have q:(dg W.G C (x::xs) fr σ).bind (λ v σ=>Res.of σ (aP v))=(u6 W.G C x fr σ).bind λ b σ=>if b then(dg W.G C xs fr σ).bind (λ v σ=>Res.of σ (aP v)) else .ok false σ:=by
  (first|rw[Ka]|rw[Kb]);unfold u6
  cases evE W.G C x fr σ with
  |ok v aX=>
   simp only[Res.ax];cases aP v with
   |none=>rfl
   |some b=>induction b<;>rfl
  |err=>rfl
  |stuck=>rfl
 refine bO (q ..) ?_;refine au.of (P':=λ Q E s=>wpAny (model W.prog W.w) A (isTrue e env (eval e env)) (λ b aL=>wpAny (model W.prog W.w) A (forIn es b λ c r=>if r=true then do let ok ←isTrue c env (eval c env);pure (ForInStep.yield ok) else pure (ForInStep.yield r)) Q E aL) E s) (λ Q E h=>?_) ?_
 .refine bO (List.forIn_cons ..) ?_;simp only[if_true];exact ak (ak (cj h (λ b aL av=>aF av) λ _ _ x=>x))
 .refine au.seq (h cx D) λ b b' aM Φ' h' k e' I S r=>?_;induction r;induction b
  .refine au.of (P':=λ Q E s=>Q false s) (λ Q E h=>?_) (au.ok λ Q E hQ=>hQ _ Φ' h' k I (.refl ..) rfl);refine bO (r4 ..) ?_;exact aF h
  .exact hr cx (D.step S I)
end
section
variable {W:Wd} {n:Nat} {C:aG} {A:Around} {e0:Env} {af:List Env} {L:Addr} {env:Env} {sc:Sc} {s:Shared} {Φ:Fz} {ρ:List Addr} {σ:ae} {fr:agq}
section
variable {X Y:Addr->Prop}
theorem Dy.kp(D:Dy W Φ ρ σ (e0::af) env vars fr h)(k:Kp X (cK (e0::af)) h h')(hX:∀a,X a->a≠env.locals/\(∀x,env.cells.lookup x≠some a)/\a∉ρ/\a∉cK (e0::af)/\Φ a=none):Dy W Φ ρ σ (e0::af) env vars fr h':=by
 refine⟨⟨D.inv.base,λ a o e=>?_,D.inv.len,λ i a c p q=>?_,D.inv.nodup,D.inv.apart⟩,D.pZ.kp k (λ a ha hx=>(hX a hx).2.2.2.1 ha) λ _ _ _=>rfl,?_⟩
 .refine k.keep a o (λ q=>?_) (λ q=>?_) (D.inv.fe a o e)
  .rw[(hX a q).2.2.2.2] at e;cases e
  .rw[(D.pZ.mem q).1] at e;cases e
 .have ha:a∈ρ:=dH p;exact(D.inv.cell i a c p q).mono (λ _ _ q=>q) (λ o q=>k.keep a o (λ x=>(hX a x).2.2.1 ha) (λ x=>(D.pZ.mem x).2.1 ha) q)
 .refine D.eC.kp (λ _ _ q=>q) (λ _ _ _=>rfl) λ a ha o e=>k.slots a o (λ q=>?_) e;rcases ha with rfl|⟨x,hx⟩
  .exact(hX _ q).1 rfl
  .exact(hX _ q).2.1 x hx
theorem Kp.other(S:Kp Y fs hs h)(k:Kp X fs h h')(hX:∀a,X a->hs.get? a=none):Kp Y fs hs h':=by
 have ne:∀a o,hs.get? a=some o->¬X a:=λ a o e q=>by rw[hX a q] at e;cases e
 exact⟨λ a o e=>let⟨o',e'⟩:=S.alive a o e;k.alive a o' e',λ a o hy hf e=>k.keep a o (ne a o e) hf (S.keep a o hy hf e),λ a o hy e=>let⟨_,e'⟩:=S.slots a o hy e;let⟨sl,oP⟩:=k.slots a _ (ne a o e) e';⟨sl,oP⟩⟩
theorem agA.other(S:agA ρ fs Φs hs Φ h)(k:Kp X fs h h')(hX:∀a,X a->hs.get? a=none):agA ρ fs Φs hs Φ h':=
 ⟨S.ext,S.fresh,S.kp.other k hX⟩
structure LS(W:Wd)(Φs:Fz)(hs:Heap)(ρ:List Addr)(σ:ae)(l:List Env)(env:Env)(vars:List (Option Str))(fr:agq)(it Dd Cc:Addr)(Φ:Fz)(h:Heap)(vs:List Value)(acc:List PyData):Prop where
 dy:Dy W Φ ρ σ l env vars fr h
 st:agA ρ (cK l) Φs hs Φ h
 fit:Φ it=none
 sO:Φ Dd=none
 JX:Φ Cc=none
 NM:∃m,h.Ns Cc m
 acc:∃ds m,h.get? Dd=some (dE ds m)/\dF Φ ds acc
 PL:kL Φ h it vs
structure yR(hs:Heap)(it Dd Cc:Addr):Prop where
 Cz:hs.get? it=none
 AB:hs.get? Dd=none
 yS:hs.get? Cc=none
 n1:it≠Dd
 n2:it≠Cc
 n3:Dd≠Cc
end
section
variable {aM σs:ae}{Cc Dd it:Addr}{vs JY:List Value}{acc acc':List PyData}
theorem Dy.apart(fJ:Dy W Φs ρ σs (e0::af) env vars fr hs)(hT:hs.get? T=none)(l6:Φ T=none):T≠env.locals/\(∀x,env.cells.lookup x≠some T)/\T∉ρ/\T∉cK (e0::af)/\Φ T=none:=
 let⟨a,b,c,d⟩:=Dy.alive (sc:=⟨[],vars⟩) fJ hT
 ⟨a,b,c,d,l6⟩
theorem Kp.one(k:∀a o,a≠T->h.get? a=some o->h'.get? a=some o)(hl:(∃o,h.get? T=some o)->∃o,h'.get? T=some o):Kp (·=T) fs h h':=by
 refine⟨λ a o e=>?_,λ a o hx _ e=>k a o hx e,λ a o hx e=>⟨o.slots,k a o hx e⟩⟩;by_cases q:a=T
 .subst q;exact hl ⟨o,e⟩
 .exact⟨o,k a o q e⟩
theorem LS.kpC(fJ:Dy W Φs ρ σs (e0::af) env vars fr hs)(N:yR hs it Dd Cc)(S:LS W Φs hs ρ σ (e0::af) env vars fr it Dd Cc Φ h vs acc)(k:Kp (·=Cc) (cK (e0::af)) h h')(hn:∃m,h'.Ns Cc m):LS W Φs hs ρ σ (e0::af) env vars fr it Dd Cc Φ h' vs acc:=by
 have hc:=fJ.apart N.yS S.JX;refine gq S.acc λ ds m e r=>?_;have D':=S.dy.kp k (qP (hc));exact⟨D',S.st.other k (qP (N.yS)),S.fit,S.sO,S.JX,hn,⟨ds,m,k.keep _ _ N.n3 (fJ.apart N.AB S.sO).2.2.2.1 e,r⟩,S.PL.keep (λ _ _ q=>q) D'.inv.fe λ o q=>k.keep _ _ N.n2 (fJ.apart N.Cz S.fit).2.2.2.1 q⟩
theorem LS.step(fJ:Dy W Φs ρ σs (e0::af) env vars fr hs)(N:yR hs it Dd Cc)(S:LS W Φs hs ρ σ (e0::af) env vars fr it Dd Cc Φ h vs acc)(k:agA ρ (cK (e0::af)) Φ h Φ' h')(I:Inv W Φ' ρ aM h'):LS W Φs hs ρ aM (e0::af) env vars fr it Dd Cc Φ' h' vs acc:=by
 have hi:=fJ.apart N.Cz S.fit;have hd:=fJ.apart N.AB S.sO;refine gq S.acc λ ds m e r=>?_;refine bK S.NM λ mc hm=>?_;have hit:∃o,h.get? it=some o:=by cases S.PL with|list _ _ h3=>obtain⟨o,e,_⟩:=h3;exact⟨o,e⟩|tuple _ _ h3=>obtain⟨o,e,_⟩:=h3;exact⟨o,e⟩
 refine bK hit λ oi KY=>?_;have sA:=hm;obtain⟨oc,_,_,hoc,_⟩:=sA;exact⟨S.dy.step k I,S.st.trans k,(k.fresh _ _ KY).trans S.fit,(k.fresh _ _ e).trans S.sO,(k.fresh _ _ hoc).trans S.JX,⟨mc,jk hm λ o q=>k.kp.slots _ _ (fJ.apart N.yS S.JX).2.2.1 q⟩,⟨ds,m,k.kp.keep _ _ hd.2.2.1 hd.2.2.2.1 e,r.mono k.ext⟩,S.PL.keep k.ext I.fe λ o q=>k.kp.keep _ _ hi.2.2.1 hi.2.2.2.1 q⟩
theorem LS.next(fJ:Dy W Φs ρ σs (e0::af) env vars fr hs)(N:yR hs it Dd Cc)(S:LS W Φs hs ρ σ (e0::af) env vars fr it Dd Cc Φ h vs acc)(k:Kp (·=it) (cK (e0::af)) h h')(qT:kL Φ h' it JY):LS W Φs hs ρ σ (e0::af) env vars fr it Dd Cc Φ h' JY acc:=by
 have hi:=fJ.apart N.Cz S.fit;refine gq S.acc λ ds m e r=>?_;refine bK S.NM λ mc hm=>?_;exact⟨S.dy.kp k (qP (hi)),S.st.other k (qP (N.Cz)),S.fit,S.sO,S.JX,⟨mc,jk hm λ o q=>k.slots _ _ (Ne.symm N.n2) q⟩,⟨ds,m,k.keep _ _ (Ne.symm N.n1) (fJ.apart N.AB S.sO).2.2.2.1 e,r⟩,qT⟩
theorem LS.push(fJ:Dy W Φs ρ σs (e0::af) env vars fr hs)(N:yR hs it Dd Cc)(S:LS W Φs hs ρ σ (e0::af) env vars fr it Dd Cc Φ h vs acc)(k:Kp (·=Dd) (cK (e0::af)) h h')(ha:∃ds m,h'.get? Dd=some (dE ds m)/\dF Φ ds acc'):LS W Φs hs ρ σ (e0::af) env vars fr it Dd Cc Φ h' vs acc':=by
 have hd:=fJ.apart N.AB S.sO;refine bK S.NM λ mc hm=>?_;have D':=S.dy.kp k (qP (hd));exact⟨D',S.st.other k (qP (N.AB)),S.fit,S.sO,S.JX,⟨mc,jk hm λ o q=>k.slots _ _ (Ne.symm N.n3) q⟩,ha,S.PL.keep (λ _ _ q=>q) D'.inv.fe λ o q=>k.keep _ _ N.n1 (fJ.apart N.Cz S.fit).2.2.2.1 q⟩
noncomputable def YK(Φ:Fz):Option Value->Option PyData->Prop
 |some v,some x=>RD Φ v x
 |none,none=>True
 |_,_=>False
def CA(G:List PyData)(C:aG)(ifs:List E)(elt:E)(aR:agq)(σ:ae):Res (Option PyData):=
 (dg G C ifs aR σ).bind λ b σ=>(Res.of σ (aP b)).bind λ b σ=>
      if b then(evE G C elt aR σ).bind λ r σ=>match r with
       |.d z=>.ok (some z) σ
       |.loc _=>.stuck
      else .ok none σ
theorem KZ(hi:mU W n C sc ifs sP)(he:cS W n C sc elt ee)(cx:Cx W n A e0 af L env sc)(D:Dy W Φ ρ σ (e0::af) env sc.vars fr s.heap):au W (e0::af) L ρ (λ Q E s=>wpAny (model W.prog W.w) A (forIn sP true λ c r=>if r=true then do let ok ←isTrue c env (eval c env);pure (ForInStep.yield ok) else pure (ForInStep.yield r))
   (λ ok dj=>if ok=true then wpAny (model W.prog W.w) A (eval ee env) (λ x gy=>Q (some x) gy) E dj else Q none dj) E s) Φ s (CA W.G C ifs elt fr σ) YK:=by
 have q:CA W.G C ifs elt fr σ=((dg W.G C ifs fr σ).bind λ v σ=>Res.of σ (aP v)).bind λ b σ=>
   if b then(evE W.G C elt fr σ).bind λ r σ=>match r with
       |.d z=>.ok (some z) σ
       |.loc _=>.stuck
      else .ok none σ:=by
  unfold CA;cases dg W.G C ifs fr σ with
  |ok v aX=>rfl
  |err=>rfl
  |stuck=>rfl
 refine bO (q ..) ?_;refine au.seq (P2:=λ ok Q E dj=>if ok=true then wpAny (model W.prog W.w) A (eval ee env) (λ x gy=>Q (some x) gy) E dj else Q none dj) (hi cx D) λ b b' aM Φ' h' k e' I S r=>?_;induction r;induction b
 .exact au.of (P':=λ Q E s=>Q none s) (λ Q E h=>h) (au.ok λ Q E hQ=>hQ _ Φ' h' k I (.refl ..) trivial)
 .refine au.of (P':=λ Q E dj=>wpAny (model W.prog W.w) A (eval ee env) (λ x gy=>Q (some x) gy) E dj) (λ Q E h=>h) ?_;refine au.seq (P2:=λ x Q E gy=>Q (some x) gy) (he cx (D.step S I)) λ v x dG ff aQ k₂ AN cZ cT jq=>?_;induction x with
  |loc=>exact .stuck
  |d z=>exact au.ok λ Q E hQ=>hQ _ ff aQ k₂ cZ (.refl ..) jq
end
end
section
variable {W:Wd} {n:Nat} {C:aG} {A:Around} {e0:Env} {af:List Env} {L:Addr} {env:Env} {sc:Sc} {s:Shared} {Φ:Fz} {ρ:List Addr} {σ:ae} {fr:agq}
theorem agP{h:Heap}{a:Addr}(x:h.PlainList a (ds.toArray.push v)):∃m,h.get? a=some (dE (ds++[v]) m):=by
 obtain⟨m,e⟩:=x;exact⟨m,by rw[e];unfold dE;simp⟩
structure DY(W:Wd)(Φ:Fz)(ρ:List Addr)(l:List Env)(env:Env)(vars:List (Option Str))(fr:agq)(h:Heap)(Dd Cc:Addr)(ys:List PyData)(aM:ae)(Φ':Fz)(h':Heap):Prop where
 hD:h.get? Dd=none
 hC:h.get? Cc=none
 eZ:Dd≠Cc
 dy:Dy W Φ' ρ aM l env vars fr h'
 st:agA ρ (cK l) Φ h Φ' h'
 c1:Φ' Cc=none
 c2:Φ' Dd=none
 c3:∃m,h'.Ns Cc m
 acc:∃ds m,h'.get? Dd=some (dE ds m)/\dF Φ' ds ys
def gL(G:List PyData)(C:aG)(t:Tg)(ifs:List E)(elt:E)(oa:agq)(y:PyData)(σ:ae):Res (Option PyData):=
 (Res.of σ (asg σ t (.d y) oa)).bind λ aR σ=>CA G C ifs elt aR σ
theorem DZ{ifs:List E}{elt:E}{t:Tg}{sP:List Expr}{ee te ie:Expr}{pos:Pos}{R:Result->Shared->Prop}(cx:Cx W n A e0 af L env sc)(iJ:jM sc aa)(oX:∀x c,cl.lookup x=some c->env.cells.lookup x=some c)(vf:∀x∈aa.names,x.2=.free->∃c,cl.lookup x.1=some c)(hi:mU W n C (aq sc aa) ifs sP)(he:cS W n C (aq sc aa) elt ee)(ht:mz (aq sc aa) t te=true)(tH:c7 (bk (aq sc aa)) t=true)(fJ:Dy W Φs ρ σs (e0::af) env sc.vars fr hs)(N:yR hs it Dd Cc):∀(items:List PyData) {s:Shared} {Φ:Fz} {σ:ae} {vs:List Value} {acc:List PyData},dF Φ vs items->LS W Φs hs ρ σ (e0::af) env sc.vars fr it Dd Cc Φ s.heap vs acc->acc.length+items.length<=lim ->
   aA (gL W.G C t ifs elt (fr++List.replicate aa.names.length none)) items σ≠.stuck ->
   (∀ys aM Φ' h' k,aA (gL W.G C t ifs elt (fr++List.replicate aa.names.length none)) items σ=.ok ys aM->Dy W Φ' ρ aM (e0::af) env sc.vars fr h'->agA ρ (cK (e0::af)) Φs hs Φ' h'->Φ' Cc=none->Φ' Dd=none->(∃m,h'.Ns Cc m)->(∃ds m,h'.get? Dd=some (dE ds m)/\dF Φ' ds (acc++ys))->R (.ok .next) { s with heap:=h',toks:=k}) ->
   (∀e aM Φ' h' k,aA (gL W.G C t ifs elt (fr++List.replicate aa.names.length none)) items σ=.err aM->Dy W Φ' ρ aM (e0::af) env sc.vars fr h'->agA ρ (cK (e0::af)) Φs hs Φ' h'->Φ' Cc=none->(∃m,h'.Ns Cc m)->bA Φ' ρ L hs h' e true->R (.error (.ref e)) { s with heap:=h',toks:=k}) ->
   codeAny (model W.prog W.w) A (.compLoop (.ListComp ee [⟨te,ie,sP,0⟩] aa pos) 0 (.ref it) (.ref Dd) (compEnvC aa cl Cc env)) R s:=by
 haveI Ft:=sN cx iJ cl Cc;haveI N':=N;intro items;induction items with
 |nil=>
  intro s Φ σ vs acc rv S agw cG fg fk;obtain rfl:=rv.ni;refine codeAny_of_tree ?_;show wpAny _ A ((compTurn (.ListComp ee [⟨te,ie,sP,0⟩] aa pos) 0 (.ref it) (.ref Dd) (compEnvC aa cl Cc env)).onRaise (λ x=>do noteFrame x (compEnvC aa cl Cc env);theTreesLotGoes x)) _ _ s;refine wpAny_noted ?_;rw[compTurn_list];refine ak (gH (ak (AU cx.handled S.PL λ h' hx=>?_)));refine aF ?_;haveI hi:=fJ.apart N.Cz S.fit;haveI hd:=fJ.apart N.AB S.sO;haveI k:Kp (λ a=>a=it/\s.heap.get? a≠none\/False) (cK (e0::af)) s.heap s.heap:=.refl ..;refine gq S.acc λ ds m e r=>?_;letI mc:=(S.NM).choose;haveI hm:=(S.NM).choose_spec;haveI D':Dy W Φ ρ σ (e0::af) env sc.vars fr h':=S.dy.other ⟨hi.1,hi.2.1,hi.2.2.1,hi.2.2.2.1⟩ S.fit λ a o eZ q=>hx a o eZ q;haveI St:agA ρ (cK (e0::af)) Φs hs Φ h':=by
   have old:∀a o,hs.get? a=some o->a≠it:=λ a o e q=>by rw[q,N.Cz] at e;cases e
   refine⟨S.st.ext,S.st.fresh,⟨λ a o e=>?_,λ a o h1 h2 e=>hx a o (old a o e) (S.st.kp.keep a o h1 h2 e),λ a o h1 e=>?_⟩⟩
   .letI o':=((S.st.kp.alive a o e)).choose;haveI e':=((S.st.kp.alive a o e)).choose_spec;exact⟨o',hx a o' (old a o e) e'⟩
   .letI sl:=((S.st.kp.slots a o h1 e)).choose;haveI e':=((S.st.kp.slots a o h1 e)).choose_spec;exact⟨sl,hx a _ (old a o e) e'⟩
  haveI:=fg [] σ Φ h' s.toks (by(first|rw[Gi]|rw[Gj])) D' St S.JX S.sO ⟨mc,hm.at' λ o q=>hx _ o (Ne.symm N.n2) q⟩ ⟨ds,m,hx _ _ (Ne.symm N.n1) e,by simpa using r⟩;exact this
 |cons x xs ih=>
  intro s Φ σ vs acc rv S agw cG fg fk;obtain⟨v,vs,rfl,r1,r2⟩:=rv.i;refine codeAny_of_tree ?_;show wpAny _ A ((compTurn (.ListComp ee [⟨te,ie,sP,0⟩] aa pos) 0 (.ref it) (.ref Dd) (compEnvC aa cl Cc env)).onRaise (λ x=>do noteFrame x (compEnvC aa cl Cc env);theTreesLotGoes x)) _ _ s;refine wpAny_noted ?_;rw[compTurn_list];refine ak (gH (ak (xd S.PL S.fit λ av NN dh NO=>?_)));haveI aW:=S.next fJ N (Kp.one (λ a o eZ q=>(dh.2 a eZ).trans q) λ _=>NO) NN
  refine ak (GO (s:={ s with heap:=av}) NN ?_)
  (first|rw[Gi] at cG fg fk|rw[Gj] at cG fg fk)
  unfold gL at cG fg fk;refine cq (asg σ t (.d x) (fr++List.replicate aa.names.length none)) (λ ha=>?_) (λ aR ha=>?_)
  .rw[ha] at cG;exact absurd rfl cG
  ·
   rw[ha] at cG fg fk;simp only[Res.bx,Res.ax] at cG fg fk;letI mc:=(aW.NM).choose;haveI UQ:=(aW.NM).choose_spec;haveI Ut:=fJ.apart N.yS aW.JX;haveI Dc:Dy W Φ ρ σ (e0::af) (compEnvC aa cl Cc env) (aq sc aa).vars (fr++List.replicate aa.names.length none) av:=
    ⟨aW.dy.inv,aW.dy.pZ,lH cx aW.dy iJ oX vf UQ aW.JX Ut.2.2.1 Ut.2.1⟩
   refine ak (oV t te ht (s:={ s with heap:=av}) (bk (aq sc aa)) Ft Dc tH (λ i hi=>qh cx i hi) (v:=.d x) r1 ha λ aQ k₂ jF fM=>?_);have cT:=aW.kpC fJ N fM (let⟨m,hm⟩:=jF.eC.ns;⟨m,hm⟩);refine ak ?_;haveI T:=KZ (s:={ s with heap:=aQ,toks:=k₂}) hi he Ft jF;refine cj (T (λ ov gy=>match ov with
     |some y=>wpAny (model W.prog W.w) A (call (.builtin "list.append") [.ref Dd,y]) (λ _ lG=>codeAny (model W.prog W.w) A (.compLoop (.ListComp ee [⟨te,ie,sP,0⟩] aa pos) 0 (.ref it) (.ref Dd) (compEnvC aa cl Cc env)) R lG) (notedBy (model W.prog W.w) A (compEnvC aa cl Cc env) λ e s'=>R (.error e) s') gy
     |none=>codeAny (model W.prog W.w) A (.compLoop (.ListComp ee [⟨te,ie,sP,0⟩] aa pos) 0 (.ref it) (.ref Dd) (compEnvC aa cl Cc env)) R gy) (notedBy (model W.prog W.w) A (compEnvC aa cl Cc env) λ e s'=>R (.error e) s') ?_ ?_ ?_) (λ ok dj aO=>?_) λ _ _ h'=>h'
   .intro q;rw[q] at cG;exact cG rfl
   .intro ov o aM Φ' h' k e' I' GQ r';rw[e'] at cG fg fk;simp only[Res.ax] at cG fg fk;have bF:=cT.step fJ N GQ I';haveI r2':dF Φ' vs xs:=r2.mono GQ.ext;have K0:aA (gL W.G C t ifs elt (fr++List.replicate aa.names.length none)) xs aM≠.stuck:=by intro q;unfold gL at q;rw[q] at cG;exact cG rfl
    induction ov with
    |none=>
     induction o with
     |some=>exact r'.elim
     |none=>
      refine ih (s:={ s with heap:=h',toks:=k}) r2' bF (by simp at agw;exact yr agw) K0 (λ ys dS cW cb fS oP=>fg ys dS cW cb fS ?_) λ e dS cW cb fS oP=>fk e dS cW cb fS ?_
      .unfold gL at oP;rw[oP];rfl
      .unfold gL at oP;rw[oP];rfl
    |some y=>
     induction o with
     |none=>exact r'.elim
     |some z=>
      refine gq bF.acc λ ds m ed rd=>?_;haveI GR:=rd.length;refine wpAny_list_append_plain (s:={ s with heap:=h',toks:=k}) (items:=ds.toArray) ⟨m,ed⟩ (λ iQ vM jN=>?_) (by have:=jj;simp at agw;simp only[List.size_toArray];exact ao (bV GR) (ao (ao (cU ..) agw) this));letI m':=((agP vM)).choose;haveI em:=((agP vM)).choose_spec;haveI xg:=bF.push fJ N (acc':=acc++[z]) (Kp.one (λ a o eZ q=>(jN.2 a eZ).trans q) λ _=>⟨_,em⟩) ⟨_,m',em,rd.append (.cons r' .nil)⟩;refine ih (s:={ s with heap:=iQ,toks:=k}) r2' xg (by simp at agw ⊢;exact mG agw) K0 (λ ys dS cW cb fS oP KS xh c1 c2 c3 c4=>fg (z::ys) dS cW cb fS ?_ KS xh c1 c2 c3 (by simpa using c4)) λ e dS cW cb fS oP=>fk e dS cW cb fS ?_
      .unfold gL at oP;rw[oP];rfl
      .unfold gL at oP;rw[oP];rfl
   .intro e aM Φ' h' k e' I' GQ T';rw[e'] at fk;have bF:=cT.step fJ N GQ I';refine sJ (s:={ s with heap:=h',toks:=k}) (h:=aQ) (X:=(·∈ρ)) cx.frames cx.f0 Ft.f rfl bF.dy.pZ I' GQ.kp T' λ cb tB UP UR YL=>?_;have lI:=cT.step fJ N (⟨GQ.ext,GQ.fresh,UP⟩:agA ρ (cK (e0::af)) Φ aQ Φ' cb) tB;exact fk e aM Φ' cb k rfl lI.dy lI.st lI.JX lI.NM (YL.back cT.st.kp.alive)
   .induction ok with
    |false=>exact aF ⟨rfl,aO⟩
    |true=>exact ak (ak (cj aO (λ x gy gz=>ak (cj gz (λ _ lG iQ=>aF (aF ⟨rfl,iQ⟩)) λ _ _ h'=>h')) λ _ _ h'=>h'))
end
theorem bQ{h:Heap}(ha:h.objs.size<=a):h.get? a=none:=by
 refine cq (h.get? a) (λ e=>?_) (λ o' e=>?_)
 .rfl
 .exact absurd (eE e) (Nat.not_lt.mpr ha)
def J0(W:Wd)(A:Around)(aa:Scope)(env:Env)(cl:List (Str×Addr))(e:Expr)(RR:Value->Addr->Result->Shared->Prop)(E:Value->Shared->Prop)(x:Value)(s:Shared):Prop:=
 wpAny (model W.prog W.w) A (pyIter x) (λ it bB=>wpAny (model W.prog W.w) A (newList []) (λ acc dj=>
   wpAny (model W.prog W.w) A (newFunctionEnv aa env.globals cl [] env.qual none .none (some env)) (λ aZ gy=>
    codeAny (model W.prog W.w) A (.compStart e 0 it acc { aZ with scope:=relabel aa env}) (RR acc aZ.locals) gy) E dj) E bB) E s
section
variable {W:Wd}{A:Around}{e0 env:Env}{af:List Env}{L:Addr}{s:Shared}{Φ:Fz}{ρ:List Addr}{σ:ae}{fr:agq}{cl:List (Str×Addr)}
theorem yT{n:Nat}{C:aG}{sc:Sc}{aa:Scope}{ifs:List E}{elt:E}{t:Tg}{RR:Value->Addr->Result->Shared->Prop}{E:Value->Shared->Prop}(cx:Cx W n A e0 af L env sc)(iJ:jM sc aa)(oX:∀x c,cl.lookup x=some c->env.cells.lookup x=some c)(vf:∀x∈aa.names,x.2=.free->∃c,cl.lookup x.1=some c)(hi:mU W n C (aq sc aa) ifs sP)(he:cS W n C (aq sc aa) elt ee)(ht:mz (aq sc aa) t te=true)(tH:c7 (bk (aq sc aa)) t=true)(D:Dy W Φ ρ σ (e0::af) env sc.vars fr s.heap)(hu:RD Φ u x)(hx:agt x=some items)(agw:items.length<=lim)(cG:aA (gL W.G C t ifs elt (fr++List.replicate aa.names.length none)) items σ≠.stuck)(fg:∀Dd Cc ys aM Φ' h' k,aA (gL W.G C t ifs elt (fr++List.replicate aa.names.length none)) items σ=.ok ys aM->DY W Φ ρ (e0::af) env sc.vars fr s.heap Dd Cc ys aM Φ' h'->RR (.ref Dd) Cc (.ok .next) { s with heap:=h',toks:=k})(fk:∀Dd Cc e aM Φ' h' k,aA (gL W.G C t ifs elt (fr++List.replicate aa.names.length none)) items σ=.err aM->s.heap.get? Cc=none->Dy W Φ' ρ aM (e0::af) env sc.vars fr h'->agA ρ (cK (e0::af)) Φ s.heap Φ' h'->Φ' Cc=none->(∃m,h'.Ns Cc m)->bA Φ' ρ L s.heap h' e true->RR (.ref Dd) Cc (.error (.ref e)) { s with heap:=h',toks:=k}):J0 W A aa env cl (.ListComp ee [⟨te,ie,sP,0⟩] aa pos) RR E u s:=by
 refine qg D.inv hu hx λ oi vs US nG hit=>?_;refine wpAny_newObj_type (wpAny_newFunctionEnv iJ.xf (by intro y hy;simp at hy) (λ av lJ lK=>?_) iJ.kind);dsimp only at lJ lK hit ⊢;generalize NP:s.heap.push oi=H1 at lJ lK hit ⊢;generalize GS:H1.push { cls:=.type "list",dict:=none,data:=.seq ([]:List Value).toArray}=H2 at lJ lK ⊢;have od:H1.objs.size=s.heap.objs.size+1:=by rw[←NP,Heap.size_push]
 have q8:H2.objs.size=s.heap.objs.size+2:=by rw[←GS,Heap.size_push,od]
 have k1:∀a o,s.heap.get? a=some o->H1.get? a=some o:=λ a o e=>NP▸dA _ e;have k2:∀a o,H1.get? a=some o->H2.get? a=some o:=λ a o e=>GS▸dA _ e;have k3:∀a o,H2.get? a=some o->av.get? a=some o:=λ a o e=>lK.extBut a o (dI (eE e)) (dA _ e);have kk:∀a o,s.heap.get? a=some o->av.get? a=some o:=λ a o e=>k3 a o (k2 a o (k1 a o e));have N:yR s.heap s.heap.objs.size H1.objs.size H2.objs.size:=⟨bQ (cy _),bQ (by rw[od];exact kF),bQ (by rw[q8];exact kF),dI (by rw[od];exact mF),dI (by rw[q8];exact F5 rfl),dI (by rw[od,q8];exact mF)⟩;have GU:av.get? H1.objs.size=some (dE [] 0):=k3 _ _ (by rw[←GS];exact d5 _ rfl);have S:LS W Φ s.heap ρ σ (e0::af) env sc.vars fr s.heap.objs.size H1.objs.size H2.objs.size Φ av vs []:=
  ⟨D.step (agA.bo kk) (D.inv.ext kk),agA.bo kk,D.inv.bp N.Cz,D.inv.bp N.AB,D.inv.bp N.yS,⟨_,lJ⟩,⟨[],0,GU,.nil⟩,hit.keep (λ _ _ q=>q) (D.inv.ext kk).fe λ o q=>k3 _ _ (k2 _ _ q)⟩
 have loop:∀dj:Shared,dj={ s with heap:=av,toks:=s.toks+([]:List (Str×Value)).length} ->
   codeAny (model W.prog W.w) A (.compLoop (.ListComp ee [⟨te,ie,sP,0⟩] aa pos) 0 (.ref s.heap.objs.size) (.ref H1.objs.size) (compEnvC aa cl H2.objs.size env)) (RR (.ref H1.objs.size) H2.objs.size) dj:=by
  rintro dj rfl;exact DZ cx iJ oX vf hi he ht tH D N items US S (by simpa using agw) cG (λ ys aM Φ' h' k e d st c1 c2 c3 c4=>fg _ _ ys aM Φ' h' k e ⟨N.AB,N.yS,N.n3,d,st,c1,c2,c3,c4⟩)
   λ e aM Φ' h' k e' d st c1 c2 t=>fk _ _ e aM Φ' h' k e' N.yS d st c1 c2 t
 exact codeAny_compStart_list (loop _ rfl) (xe S.PL (loop _ rfl))
theorem Dy.GV(fJ:Dy W Φs ρ σs (e0::af) env vars fr hs)(D:Dy W Φ ρ σ (e0::af) env vars fr h)(S:agA ρ (cK (e0::af)) Φs hs Φ h)(hT:hs.get? T=none)(l6:Φ T=none)(hC:hs.get? Cc=none)(UT:Φ Cc=none)(hTC:T≠Cc)(ho:h.get? T=some o)(mA:Heap.SameBut Cc h h')(oX:∃m,h.Ns Cc m):Inv W (Φ.add T o) ρ σ h'/\agA ρ (cK (e0::af)) Φs hs (Φ.add T o) h'/\h'.get? T=some o:=by
 have aT:=fJ.apart hT l6;have aC:=fJ.apart hC UT;have ext:∀b o',Φ b=some o'->(Φ.add T o) b=some o':=λ b o' e=>by
  have:b≠T:=neN e l6;simp[Fz.add,this,e]
 have ho':h'.get? T=some o:=(mA.2 T hTC).trans ho;have keep:∀a o,a≠Cc->h.get? a=some o->h'.get? a=some o:=λ a o eZ e=>(mA.2 a eZ).trans e;refine⟨⟨λ b o' e=>ext b o' (D.inv.base b o' e),λ b o' e=>?_,D.inv.len,λ i b c h1 h2=>(D.inv.cell i b c h1 h2).mono ext (λ o q=>keep b o ?_ q),D.inv.nodup,λ b hb=>?_⟩,⟨λ b o' e=>ext b o' (S.ext b o' e),λ b o' e=>?_,?_⟩,ho'⟩
 .by_cases q:b=T
  .subst q;simp[Fz.add] at e;subst e;exact ho'
  .simp[Fz.add,q] at e;exact keep b o' (neN e UT) (D.inv.fe b o' e)
 .rintro rfl;exact aC.2.2.1 (dH h1)
 .have:b≠T:=by rintro rfl;exact aT.2.2.1 hb
  simp[Fz.add,this,D.inv.apart b hb]
 .have:b≠T:=neN e hT;simp[Fz.add,this,S.fresh b o' e]
 .have ne:∀a o,hs.get? a=some o->a≠Cc:=λ a o e q=>by rw[q,hC] at e;cases e
  exact⟨λ a o e=>let⟨o',e'⟩:=S.kp.alive a o e;⟨o',keep a o' (ne a o e) e'⟩,λ a o h1 h2 e=>keep a o (ne a o e) (S.kp.keep a o h1 h2 e),λ a o h1 e=>let⟨sl,e'⟩:=S.kp.slots a o h1 e;⟨sl,keep a _ (ne a o e) e'⟩⟩
theorem bA.sameBut(T:bA Φ ρ L h h' e c)(hs:Heap.SameBut Cc h' cb)(hn:∃m,h'.Ns Cc m):bA Φ ρ L h cb e c:=by
 obtain⟨m,o,es,ep,ho,hd,_⟩:=hn;obtain⟨a,b,d,oe,vs,h1,h2,h3,h4⟩:=T;have ne:∀(x:Addr) (ox:Obj) (ws:Array Value),h'.get? x=some ox->ox.data=.fields ws->cb.get? x=some ox:=λ x ox ws q1 q2=>by
  have:x≠Cc:=by rintro rfl;haveI q1:=ho▸q1;obtain rfl:=bD q1;rw[hd] at q2;cases q2
  exact(hs.2 x this).trans q1
 refine⟨a,b,d,oe,vs,ne _ _ _ h1 h3,h2,h3,?_⟩;induction h4 with
 |none q z=>exact .none q z
 |some a b c d e f g k=>exact .some a b c d e (ne _ _ _ f g) g k
theorem CB{Q:Value->Shared->Prop}{E:Value->Shared->Prop}(I:Inv W Φ ρ σ s.heap)(SO:bh l Φ ρ s.heap)(K:Kp (·∈ρ) (cK l) h s.heap)(T:bA Φ ρ L h s.heap e true)(hE:∀cb,Inv W Φ ρ σ cb->Kp (·∈ρ) (cK l) h cb->bA Φ ρ L h cb e false->E (.ref e) { s with heap:=cb}):wpAny (model W.prog W.w) A (PySem.passOn "comprehension.variables-let-go" (.ref e) aZ:Sem Value) Q E s:=by
 have T':=T;obtain⟨_,_,_,oe,vs,he,_,hd,tb⟩:=T';induction tb with
 |none q _=>exact Bool.noConfusion q
 |some h1=>
  refine ak (wpAny_field he hd h1 ?_);rw[if_neg (by simp)];have:=qX (A:=A) (E:=E) (Q:=λ _ Kn=>E (.ref e) Kn) aZ.frame rfl SO I K T λ aQ cZ fM cT yF _=>hE aQ cZ fM (yF L)
  first
   |exact ak (cj this (λ _ _ h'=>wpAny_throw h') λ _ _ h'=>h')
   |exact ak (aF (ak (cj this (λ _ _ h'=>wpAny_throw h') λ _ _ h'=>h')))
theorem DY.fe(Z:DY W Φs ρ (e0::af) env vars fr hs Dd Cc ys σ Φ h)(fJ:Dy W Φs ρ σs (e0::af) env vars fr hs)(mA:Heap.SameBut Cc h h'):∃o,(Φ.add Dd o) Cc=none/\Inv W (Φ.add Dd o) ρ σ h'/\agA ρ (cK (e0::af)) Φs hs (Φ.add Dd o) h'/\RD (Φ.add Dd o) (.ref Dd) (.list ys):=by
 refine gq Z.acc λ ds m hd rd=>?_;haveI q:=fJ.GV Z.dy Z.st Z.hD Z.c2 Z.hC Z.c1 Z.eZ hd mA Z.c3;exact⟨_,by simp[Fz.add,Ne.symm Z.eZ,Z.c1],q.1,q.2.1,RD.list (Fz.hU ..) (rd.mono λ a o q=>by have:a≠Dd:=neN q Z.c2;simp[Fz.add,this,q])⟩
theorem PM{γ:Type}{o:Option γ}{g:γ->ae->Res V}(h:∀x,(∃v,g x σ=.ok v σ)\/g x σ=.stuck):(∃v,(Res.of σ o).bind g=.ok v σ)\/(Res.of σ o).bind g=.stuck:=by
 induction o with
 |none=>exact .inr rfl
 |some x=>exact h x
end
mutual
theorem agL(G:List PyData)(C:aG)(fr:agq)(σ:ae):∀e:E,agF e=true->(∃v,evE G C e fr σ=.ok v σ)\/evE G C e fr σ=.stuck
 |.con x,_=>.inl ⟨_,rfl⟩
 |.var i,_=>by
  rw[Kf];generalize fr[i]?=o;induction o with
  |none=>exact .inr rfl
  |some o=>induction o with
   |none=>exact .inr rfl
   |some v=>exact .inl ⟨_,rfl⟩
 |.glob g,_=>by
  rw[Gk];generalize G[g]?=o;induction o with
  |none=>exact .inr rfl
  |some v=>exact .inl ⟨_,rfl⟩
 |.tup xs,h=>by
  rw[Cb];rcases vN G C fr σ xs h with⟨vs,e⟩|e<;>rw[e]
  .exact PM λ _=>.inl ⟨_,rfl⟩
  .exact .inr rfl
 |.idx a i,h=>by
  refine dd (cf h) λ h1 h2=>?_;rw[Cd];rcases agL G C fr σ a h1 with⟨v,e⟩|e<;>rw[e]
  .refine bO (Res.ax ..) ?_;rcases agL G C fr σ i h2 with⟨w,q⟩|q<;>(refine bO (q ..) ?_)
   .exact PM λ _=>PM λ _=>PM λ _=>.inl ⟨_,rfl⟩
   .exact .inr rfl
  .exact .inr rfl
 |.bin op a b,h=>by
  refine dd (cf h) λ h1 h2=>?_;rw[Cg];rcases agL G C fr σ a h1 with⟨v,e⟩|e<;>rw[e]
  .refine bO (Res.ax ..) ?_;rcases agL G C fr σ b h2 with⟨w,q⟩|q<;>(refine bO (q ..) ?_)
   .exact PM λ _=>PM λ _=>PM λ _=>.inl ⟨_,rfl⟩
   .exact .inr rfl
  .exact .inr rfl
 |.lst _,h=>Bool.noConfusion h
 |.Fs _ _ _,h=>Bool.noConfusion h
 |.cmp _ _ _,h=>Bool.noConfusion h
 |.Ga _ _ _,h=>Bool.noConfusion h
 |.and _,h=>Bool.noConfusion h
 |.or _,h=>Bool.noConfusion h
 |.not _,h=>Bool.noConfusion h
 |.neg _,h=>Bool.noConfusion h
 |.call _ _,h=>Bool.noConfusion h
 |.len _,h=>Bool.noConfusion h
 |.l5 _,h=>Bool.noConfusion h
 |.oA _,h=>Bool.noConfusion h
 |.qW _ _ _,h=>Bool.noConfusion h
 |.u0 _ _,h=>Bool.noConfusion h
 |.comp _ _ _ _ _,h=>Bool.noConfusion h
 |.fY _ _ _ _ _ _,h=>Bool.noConfusion h
 |.j0 _,h=>Bool.noConfusion h
 |.pick _ _ _,h=>Bool.noConfusion h
theorem vN(G:List PyData)(C:aG)(fr:agq)(σ:ae):∀e:List E,ahf e=true->(∃v,fL G C e fr σ=.ok v σ)\/fL G C e fr σ=.stuck
 |[],_=>.inl ⟨_,rfl⟩
 |x::xs,h=>by
  refine dd (cf h) λ h1 h2=>?_
  (first|rw[Yd]|rw[Ye])
  rcases agL G C fr σ x h1 with⟨v,e⟩|e<;>rw[e]
  .rcases vN G C fr σ xs h2 with⟨w,q⟩|q
   .exact .inl ⟨v::w,by rw[Res.ax,q];rfl⟩
   .exact .inr (by simp only[Res.ax,q];rfl)
  .exact .inr rfl
end
section
variable {W:Wd} {n:Nat} {C:aG} {A:Around} {e0:Env} {af:List Env} {L:Addr} {env:Env} {sc:Sc} {s:Shared} {Φ:Fz} {ρ:List Addr} {σ:ae} {fr:agq}
def agQ(env:Env)(ρ fs:List Addr)(a:Addr):Prop:=a≠env.locals/\(∀x,env.cells.lookup x≠some a)/\a∉ρ/\a∉fs
structure Kq(X:Addr->Prop)(fs:List Addr)(h h':Heap):Prop where
 keep:∀a o,¬X a->a∉fs->h.get? a=some o->h'.get? a=some o
 slots:∀a o,¬X a->h.get? a=some o->∃sl,h'.get? a=some { o with slots:=sl}
section
variable {X Y:Addr->Prop}{fs ρ:List Addr}{h h':Heap}{l:List Env}{Φ Φ':Fz}{vars:List (Option Str)}{cQ hG:agq}
theorem Kp.kq(k:Kp X fs h h'):Kq X fs h h':=⟨k.keep,k.slots⟩
theorem Kq.mono(k:Kq X fs h h')(q:∀a,X a->Y a):Kq Y fs h h':=⟨λ a o hn=>k.keep a o λ x=>hn (q a x),λ a o hn=>k.slots a o λ x=>hn (q a x)⟩
theorem bh.kq(S:bh l Φ ρ h)(k:Kq X fs h h')(hx:∀a∈cK l,¬X a)(hf:∀a o,h.get? a=some o->Φ' a=Φ a):bh l Φ' ρ h':=by
 intro env he;obtain⟨hk,L,o,h1,h2,h3,h4,h5⟩:=S env he;letI sl:=((k.slots L o (hx L (kx.mpr ⟨env,he,h1⟩)) h2)).choose;haveI e:=((k.slots L o (hx L (kx.mpr ⟨env,he,h1⟩)) h2)).choose_spec;exact⟨hk,L,_,h1,e,h3,(hf L o h2).trans h4,h5⟩
theorem Dy.RW(D:Dy W Φ ρ σ (e0::af) env vars fr h)(k:Kq X (cK (e0::af)) h h')(ext:∀a o,Φ a=some o->Φ' a=some o)(fresh:∀a o,h.get? a=some o->Φ' a=Φ a)(I:Inv W Φ' ρ σ h')(hX:∀a,X a->agQ env ρ (cK (e0::af)) a):Dy W Φ' ρ σ (e0::af) env vars fr h':=by
 refine⟨I,D.pZ.kq k (λ a ha hx=>(hX a hx).2.2.2 ha) fresh,D.eC.kp ext fresh λ a ha o e=>k.slots a o (λ q=>?_) e⟩;rcases ha with rfl|⟨x,hx⟩
 .exact(hX _ q).1 rfl
 .exact(hX _ q).2.1 x hx
theorem wY.weaken(F:wY Φ ρ env vars hG h)(hl:cQ.length=hG.length)(hw:∀(i:Nat) (v:V),cQ[i]?=some (some v)->hG[i]?=some (some v)):wY Φ ρ env vars cQ h:=
 ⟨F.ns,F.JQ,F.yI,F.cell,F.inj,λ i x hx=>let⟨ov,a,b⟩:=F.val i x hx;⟨ov,a,λ v q=>b v (hw i v q)⟩,F.nodup,hl.trans F.len⟩
theorem Dy.weaken(D:Dy W Φ ρ σ l env vars hG h)(hl:cQ.length=hG.length)(hw:∀(i:Nat) (v:V),cQ[i]?=some (some v)->hG[i]?=some (some v)):Dy W Φ ρ σ l env vars cQ h:=
 ⟨D.inv,D.pZ,D.eC.weaken hl hw⟩
end
structure RX(W:Wd)(ρ:List Addr)(σ:ae)(fs:List Addr)(te:Expr)(it:Addr)(X:Addr->Prop)(J:List PyData->Fz->Heap->Prop):Prop where
 YM:∀{xs Φ h},J xs Φ h->∀a,X a->Φ a=none
 live:∀{xs Φ h},J xs Φ h->∀a,X a->∃o,h.get? a=some o
 keep:∀{xs Φ Φ' h h'},J xs Φ h->Inv W Φ' ρ σ h'->(∀a o,Φ a=some o->Φ' a=some o)->(∀a o,h.get? a=some o->Φ' a=Φ a)->(∀a o,X a->h.get? a=some o->h'.get? a=some o)->J xs Φ' h'
 next:∀{A:Around} {s:Shared} {Φ xs x} {Q:Value->Shared->Prop} {E:Value->Shared->Prop},Inv W Φ ρ σ s.heap->J (x::xs) Φ s.heap ->
  (∀v Φ' h',J xs Φ' h'->(∀a o,Φ a=some o->Φ' a=some o)->(∀a o,s.heap.get? a=some o->Φ' a=Φ a)->Inv W Φ' ρ σ h'->Kq X fs s.heap h'->RD Φ' v x->Q v { s with heap:=h'}) ->
  wpAny (model W.prog W.w) A (pyNext (.ref it)) (λ r aL=>∃v,r=some v/\wpAny (model W.prog W.w) A (letOwnedTupleGo te (.ref it) v) (λ _ bB=>Q v bB) E aL) E s
 stop:∀{A:Around} {s:Shared} {Φ} {Q:Option Value->Shared->Prop} {E:Value->Shared->Prop},A.handled=none->Inv W Φ ρ σ s.heap->J [] Φ s.heap ->
  (∀h',Inv W Φ ρ σ h'->Kq X fs s.heap h'->Q none { s with heap:=h'})->wpAny (model W.prog W.w) A (pyNext (.ref it)) Q E s
structure PS(W:Wd)(ρ:List Addr)(σ:ae)(l:List Env)(env:Env)(vars:List (Option Str))(fr:agq)(aZ:Env)(vO:List (Option Str))(oa:agq)(Dd:Addr)(Bs:Fz->Heap->Prop)(Φ:Fz)(h:Heap)(acc:List PyData):Prop where
 dy:Dy W Φ ρ σ l env vars fr h
 dc:Dy W Φ ρ σ l aZ vO oa h
 bs:Bs Φ h
 sO:Φ Dd=none
 acc:∃ds m,h.get? Dd=some (dE ds m)/\dF Φ ds acc
def oY(W:Wd)(ρ:List Addr)(σ:ae)(fs:List Addr)(Y:Addr->Prop)(Bs:Fz->Heap->Prop):Prop:=
 ∀{Φ Φ' h h'},Bs Φ h->(∀a o,Φ a=some o->Φ' a=some o)->(∀a o,h.get? a=some o->Φ' a=Φ a)->Kq (λ a=>Y a\/a∈ρ) fs h h'->Inv W Φ' ρ σ h'->Bs Φ' h'
section
variable {vO vars:List (Option Str)}{aZ:Env}{oa:agq}{Dd:Addr}{Bs:Fz->Heap->Prop}{X Y:Addr->Prop}{h h':Heap}{acc:List PyData}{Φ':Fz}{α:Type}{σ τ:ae}{P:Prop}
theorem PS.kp(S:PS W ρ σ (e0::af) env vars fr aZ vO oa Dd Bs Φ h acc)(cl:oY W ρ σ (cK (e0::af)) Y Bs)(k:Kq X (cK (e0::af)) h h')(ext:∀a o,Φ a=some o->Φ' a=some o)(fresh:∀a o,h.get? a=some o->Φ' a=Φ a)(I:Inv W Φ' ρ σ h')(GW:∀a,X a->Y a)(h1:∀a,X a->agQ env ρ (cK (e0::af)) a)(h2:∀a,X a->agQ aZ ρ (cK (e0::af)) a)(h3:¬X Dd)(h4:Dd∉cK (e0::af)):PS W ρ σ (e0::af) env vars fr aZ vO oa Dd Bs Φ' h' acc:=by
 refine gq S.acc λ ds m e r=>?_;exact⟨S.dy.RW k ext fresh I h1,S.dc.RW k ext fresh I h2,cl S.bs ext fresh (k.mono λ a q=>.inl (GW a q)) I,(fresh _ _ e).trans S.sO,⟨ds,m,k.keep _ _ h3 h4 e,r.mono ext⟩⟩
theorem PS.step(S:PS W ρ σ (e0::af) env vars fr aZ vO oa Dd Bs Φ h acc)(cl:oY W ρ σ (cK (e0::af)) Y Bs)(k:agA ρ (cK (e0::af)) Φ h Φ' h')(I:Inv W Φ' ρ σ h')(h3:Dd∉ρ)(h4:Dd∉cK (e0::af)):PS W ρ σ (e0::af) env vars fr aZ vO oa Dd Bs Φ' h' acc:=by
 refine gq S.acc λ ds m e r=>?_;exact⟨S.dy.step k I,S.dc.step k I,cl S.bs k.ext k.fresh (k.kp.kq.mono λ a q=>.inr q) I,(k.fresh _ _ e).trans S.sO,⟨ds,m,k.kp.keep _ _ h3 h4 e,r.mono k.ext⟩⟩
theorem GX{a b:α}(h:Res.ok a σ=.ok b τ):σ=τ:=by cases h;rfl
theorem GY{b:α}(h:Res.stuck=.ok b τ):P:=by cases h
theorem GZ{a:α}(h:Res.ok a σ=.err τ):P:=by cases h
theorem CC(h:(Res.stuck:Res α)=.err τ):P:=by cases h
end
def pF(G:List PyData)(C:aG)(t:Tg)(elt:E)(oa:agq)(y:PyData)(σ:ae):Res (Option PyData):=
 (Res.of σ (asg σ t (.d y) oa)).bind λ aR σ=>(evE G C elt aR σ).bind λ r σ=>match r with
       |.d z=>.ok (some z) σ
       |.loc _=>.stuck
def AV(e:Expr)(d:Nat)(te ie ee:Expr)(acc:Value)(aZ:Env):Prop:=∀it:Value,compTurn e d it acc aZ=(standAt ie.pos >>= λ _=>pyNext it >>= λ r=>match r with
   |none=>pure (.done .next)
   |some v=>letOwnedTupleGo te it v >>= λ _=>assign te aZ v >>= λ _=>
    (eval ee aZ >>= λ x=>call (.builtin "list.append") [acc,x] >>= λ _=>pure ()) >>= λ _=>
     again (.compLoop e d it acc aZ))
theorem oZ{e:Expr}{d:Nat}{it Dd:Addr}{aZ:Env}{yl:Sc}{oa:agq}{X Y:Addr->Prop}{J:List PyData->Fz->Heap->Prop}{Bs:Fz->Heap->Prop}{elt:E}{t:Tg}{ee te ie:Expr}{R:Result->Shared->Prop}{p:Nat->Bool}(T:RX W ρ σ (cK (e0::af)) te it X J)(NQ:AV e d te ie ee (.ref Dd) aZ)(NR:∀{s:Shared},wpAny (model W.prog W.w) A ((compTurn e d (.ref it) (.ref Dd) aZ).onRaise (λ x=>do noteFrame x aZ;theTreesLotGoes x)) (λ f s'=>match f with|.done r=>R (.ok r) s' | .again c=>c.quiet=true/\codeAny (model W.prog W.w) A c R s') (λ x s'=>R (.error x) s') s->codeAny (model W.prog W.w) A (.compLoop e d (.ref it) (.ref Dd) aZ) R s)(Ft:Cx W n A e0 af L aZ yl)(he:cS W n C yl elt ee)(ht:mz yl t te=true)(tH:c7 p t=true)(K1:∀i,p i=true->RV yl aZ (·=aZ.locals) i)(hp:agF elt=true)(hw:∀y cQ,asg σ t (.d y) oa=some cQ->oa.length=cQ.length/\∀(i:Nat) (v:V),oa[i]?=some (some v)->cQ[i]?=some (some v))(cl:oY W ρ σ (cK (e0::af)) Y Bs)(GW:∀a,X a->Y a)(NS:Y Dd)(RY:Y aZ.locals)(h1:∀a,Y a->agQ env ρ (cK (e0::af)) a)(h2:∀a,X a->agQ aZ ρ (cK (e0::af)) a)(h3:¬X Dd)(h4:agQ aZ ρ (cK (e0::af)) Dd):∀(items:List PyData) {s:Shared} {Φ:Fz} {acc:List PyData},J items Φ s.heap->PS W ρ σ (e0::af) env sc.vars fr aZ yl.vars oa Dd Bs Φ s.heap acc->acc.length+items.length<=lim ->
   aA (pF W.G C t elt oa) items σ≠.stuck ->
   (∀ys Φ' h' k,aA (pF W.G C t elt oa) items σ=.ok ys σ->PS W ρ σ (e0::af) env sc.vars fr aZ yl.vars oa Dd Bs Φ' h' (acc++ys)->R (.ok .next) { s with heap:=h',toks:=k}) ->
   codeAny (model W.prog W.w) A (.compLoop e d (.ref it) (.ref Dd) aZ) R s:=by
 intro items;induction items with
 |nil=>
  intro s Φ acc hJ S agw cG fg;refine NR (wpAny_noted ?_);rw[NQ];refine ak (gH (ak (T.stop Ft.handled S.dy.inv hJ λ h' I' K'=>aF ?_)));haveI S':=S.kp cl K' (λ _ _ q=>q) (λ _ _ _=>rfl) I' GW (λ a q=>h1 a (GW a q)) h2 h3 h4.2.2.2;exact fg [] Φ h' s.toks rfl (by simpa using S')
 |cons x xs ih=>
  intro s Φ acc hJ S agw cG fg;refine NR (wpAny_noted ?_);rw[NQ];refine ak (gH (ak (cj (T.next (s:=s) (Q:=λ v bB=>wpAny (model W.prog W.w) A (assign te aZ v >>= λ _=>
    (eval ee aZ >>= λ x=>call (.builtin "list.append") [.ref Dd,x] >>= λ _=>pure ()) >>= λ _=>
     again (.compLoop e d (.ref it) (.ref Dd) aZ)) (λ f s'=>match f with|.done r=>R (.ok r) s' | .again c=>c.quiet=true/\codeAny (model W.prog W.w) A c R s') (notedBy (model W.prog W.w) A aZ λ x s'=>R (.error x) s') bB) S.dy.inv hJ λ v cJ av qi AW rY du wW dY=>?_) (λ r aL h=>?_) λ _ _ h=>h)))
  .have aW:=S.kp cl wW AW rY du GW (λ a q=>h1 a (GW a q)) h2 h3 h4.2.2.2
   (first|rw[Gi] at cG fg|rw[Gj] at cG fg)
   unfold pF at cG fg;refine cq (asg σ t (.d x) oa) (λ ha=>?_) (λ cQ ha=>?_)
   .rw[ha] at cG;exact absurd rfl cG
   ·
    rw[ha] at cG fg;simp only[Res.bx,Res.ax] at cG fg;haveI uY:=(hw x cQ ha).1;haveI PN:=(hw x cQ ha).2;refine ak (oV t te ht (s:={ s with heap:=av}) p Ft aW.dc tH K1 (v:=.d x) dY ha λ aQ k₂ jF fM=>?_);haveI hC:agQ env ρ (cK (e0::af)) aZ.locals:=h1 _ RY;haveI cT:PS W ρ σ (e0::af) env sc.vars fr aZ yl.vars oa Dd Bs cJ aQ acc:=by
     obtain⟨ds,m,e,r⟩:=aW.acc;exact⟨aW.dy.RW fM.kq (λ _ _ q=>q) (λ _ _ _=>rfl) jF.inv (qP (hC)),jF.weaken uY PN,cl aW.bs (λ _ _ q=>q) (λ _ _ _=>rfl) (fM.kq.mono (qP (.inl RY))) jF.inv,aW.sO,⟨ds,m,fM.keep _ _ h4.1 h4.2.2.2 e,r⟩⟩
    refine ak (ak ?_);refine he (s:={ s with heap:=aQ,toks:=k₂}) Ft jF _ _ ?_ ?_ ?_
    .intro q;rw[q] at cG;exact cG rfl
    .intro u z aM d6 aO cM kg fE qj q6;haveI YN:σ=aM:=(agL W.G C cQ σ elt hp).elim (λ k=>k.elim λ _ q=>GX (q.symm.trans kg)) λ q=>GY (q.symm.trans kg);subst YN;rw[kg] at cG fg;simp only[Res.ax] at cG fg;induction z with
     |loc=>exact absurd rfl cG
     |d z=>
     simp only[Res.ax] at cG fg;have bF:=cT.step cl qj fE h4.2.2.1 h4.2.2.2;obtain⟨ds,m,ed,rd⟩:=bF.acc;haveI GR:=rd.length;refine ak (wpAny_list_append_plain (s:={ s with heap:=aO,toks:=cM}) (items:=ds.toArray) ⟨m,ed⟩ (λ iQ vM jN=>?_) (by have:=jj;simp at agw;simp only[List.size_toArray];exact ao (bV GR) (ao (ao (cU ..) agw) this)));obtain⟨m',em⟩:=agP vM;have G0:Kp (·=Dd) (cK (e0::af)) aO iQ:=Kp.one (λ a o eZ q=>(jN.2 a eZ).trans q) λ _=>⟨_,em⟩;have K3:Inv W d6 ρ σ iQ:=(bF.dy.kp G0 (qP (⟨(h1 _ NS).1,(h1 _ NS).2.1,(h1 _ NS).2.2.1,(h1 _ NS).2.2.2,bF.sO⟩))).inv;have xg:PS W ρ σ (e0::af) env sc.vars fr aZ yl.vars oa Dd Bs d6 iQ (acc++[z]):=
      ⟨bF.dy.RW G0.kq (λ _ _ q=>q) (λ _ _ _=>rfl) K3 (qP (h1 _ NS)),bF.dc.RW G0.kq (λ _ _ q=>q) (λ _ _ _=>rfl) K3 (qP (h4)),cl bF.bs (λ _ _ q=>q) (λ _ _ _=>rfl) (G0.kq.mono (qP (.inl NS))) K3,bF.sO,⟨_,m',em,rd.append (.cons q6 .nil)⟩⟩
     have UU:J xs d6 iQ:=T.keep (T.keep (T.keep qi jF.inv (λ _ _ q=>q) (λ _ _ _=>rfl) λ a o q e=>fM.keep a o (h2 a q).1 (h2 a q).2.2.2 e) fE qj.ext qj.fresh λ a o q e=>qj.kp.keep a o (h2 a q).2.2.1 (h2 a q).2.2.2 e) K3 (λ _ _ q=>q) (λ _ _ _=>rfl) λ a o q e=>G0.keep a o (by rintro rfl;exact h3 q) (h2 a q).2.2.2 e;refine aF (aF ⟨rfl,?_⟩);haveI K0:aA (pF W.G C t elt oa) xs σ≠.stuck:=by intro q;unfold pF at q;rw[q] at cG;exact cG rfl
     refine ih (s:={ s with heap:=iQ,toks:=cM}) UU xg (by simp at agw ⊢;exact mG agw) K0 λ ys cW cb fS oP w8=>fg (z::ys) cW cb fS ?_ (by simpa using w8);unfold pF at oP;rw[oP];rfl
    .exact λ e' aM Φ' h' k kg=>(agL W.G C cQ σ elt hp).elim (λ k=>k.elim λ _ q=>GZ (q.symm.trans kg)) λ q=>CC (q.symm.trans kg)
  .obtain⟨v,rfl,h⟩:=h;exact ak h
end
section
variable {W:Wd} {n:Nat} {C:aG} {A:Around} {e0:Env} {af:List Env} {L:Addr} {env:Env} {sc:Sc} {s:Shared} {Φ:Fz} {ρ:List Addr} {σ:ae} {fr:agq}
theorem Inv.other{X:Addr->Prop}(I:Inv W Φ ρ σ h)(k:∀a o,¬X a->h.get? a=some o->h'.get? a=some o)(h1:∀a,X a->Φ a=none)(h2:∀a,X a->a∉ρ):Inv W Φ ρ σ h':=
 ⟨I.base,λ a o e=>k a o (λ q=>by rw[h1 a q] at e;cases e) (I.fe a o e),I.len,λ i a c p q=>(I.cell i a c p q).mono (λ _ _ q=>q) (λ o e=>k a o (λ x=>h2 a x (dH p)) e),I.nodup,I.apart⟩
theorem Kq.one(k:∀a o,a≠T->h.get? a=some o->h'.get? a=some o):Kq (·=T) fs h h':=⟨λ a o hx _ e=>k a o hx e,λ a o hx e=>⟨o.slots,k a o hx e⟩⟩
def PO(σ:ae)(m:Nat)(a it:Addr)(xs:List PyData)(Φ:Fz)(h:Heap):Prop:=
 ∃all i,σ[m]?=some (.lst all)/\xs=all.drop i/\Φ it=none/\h.IsListIter it a i
theorem CD(ha:ρ[m]?=some a)(hit:it∉ρ)(Xp:it∉fs):RX W ρ σ fs te it (·=it) (PO σ m a it) where
 YM:=by rintro xs Φ h ⟨all,i,_,_,q,_⟩ b rfl;exact q
 live:=by rintro xs Φ h ⟨all,i,_,_,_,o,e,_⟩ b rfl;exact⟨o,e⟩
 keep:=by
  rintro xs Φ Φ' h h' ⟨all,i,h1,h2,h3,h4⟩ I ext fresh k;obtain⟨o,e,r⟩:=h4;exact⟨all,i,h1,h2,(fresh _ _ e).trans h3,o,k it o rfl e,r⟩
 next:=by
  rintro A s Φ xs x Q E I ⟨all,i,h1,h2,h3,h4⟩ hQ;have e7:i<all.length:=by
   rcases Nat.lt_or_ge i all.length with h|h
   .exact h
   .rw[List.drop_eq_nil_of_le h] at h2;cases h2
  rw[List.drop_eq_getElem_cons e7] at h2;injection h2 with e1 e2
  obtain⟨vs,nn,hg,rs⟩:=I.cell m a _ ha h1;refine aI (rs.get (i:=i) (x:=x) (by rw[e1];exact gj e7)) λ v hv rv=>?_;refine wpAny_pyNext_list_item (x:=v) h4 ⟨_,hg,rfl,nn,rfl⟩ (by simpa using hv) λ h' hi hs=>⟨v,rfl,?_⟩;obtain⟨o,eo,hc,hd⟩:=hi;refine mS (s:={ s with heap:=h'}) eo hc (by decide) ?_;exact hQ v Φ h' ⟨all,i+1,h1,e2,h3,o,eo,hc,hd⟩ (λ _ _ q=>q) (λ _ _ _=>rfl) (I.other (X:=(·=it)) (λ b o hb e=>(hs.2 b hb).trans e) (qP (h3)) (qP (hit)))
   (Kq.one λ b o hb e=>(hs.2 b hb).trans e) rv
 stop:=by
  rintro A s Φ Q E hh I ⟨all,i,h1,h2,h3,h4⟩ hQ;have hle:all.length<=i:=by
   rcases Nat.lt_or_ge i all.length with h|h
   .rw[List.drop_eq_getElem_cons h] at h2;cases h2
   .exact h
  obtain⟨vs,nn,hg,rs⟩:=I.cell m a _ ha h1;refine wpAny_pyNext_list_end hh h4 ⟨_,hg,rfl,nn,rfl⟩ (by simp[rs.length,hle]) λ h' hx=>?_;exact hQ h' (I.other (X:=(·=it)) (λ b o hb e=>hx b o hb e) (qP (h3)) (qP (hit))) (Kq.one λ b o hb e=>hx b o hb e)
theorem r5:oY W ρ σ fs (λ a=>hs.get? a=none) (λ Φ h=>agA ρ fs Φs hs Φ h):=by
 intro Φ Φ' h h' S ext fresh k I;have ne:∀a o,hs.get? a=some o->a∉ρ->¬(hs.get? a=none\/a∈ρ):=λ a o e h1 q=>q.elim (λ q=>by rw[q] at e;cases e) h1;refine⟨λ a o e=>ext a o (S.ext a o e),λ a o e=>?_,⟨λ a o e=>?_,λ a o h1 h2 e=>k.keep a o (ne a o e h1) h2 (S.kp.keep a o h1 h2 e),λ a o h1 e=>?_⟩⟩
 .refine bK (S.kp.alive a o e) λ o' e'=>?_;exact(fresh a o' e').trans (S.fresh a o e)
 .by_cases q:a∈ρ
  .exact I.live q
  .refine bK (S.kp.slots a o q e) λ sl e'=>?_;refine bK (k.slots a _ (ne a o e q) e') λ NG oP=>?_;exact⟨_,oP⟩
 .refine bK (S.kp.slots a o h1 e) λ sl e'=>?_;refine bK (k.slots a _ (ne a o e h1) e') λ NG oP=>?_;exact⟨NG,oP⟩
theorem tI(h:bk (aq sc aa) i=true):sc.vars.length<=i:=by
 rcases Nat.lt_or_ge i sc.vars.length with hi|hi
 .exfalso;unfold bk at h;refine cq ((aq sc aa).vars[i]?) (λ hx=>?_) (λ o hx=>?_)
  .rw[hx] at h;cases h
  ·
   rw[hx] at h;induction o with
   |none=>cases h
   |some x=>
    unfold aq at hx;dsimp only at hx;rw[i0 (by simpa using hi),List.getElem?_map] at hx;refine cq (sc.vars[i]?) (λ hq=>?_) (λ o hq=>?_)
    .rw[hq] at hx;cases hx
    ·
     rw[hq] at hx;induction o with
     |none=>simp at hx
     |some y=>
      simp only[Option.map_some,Option.some.injEq] at hx;split at hx
      .rename_i hc;cases hx;simp only[dN,beq_iff_eq] at hc;have:=mT (p:=λ n=>sc.names.lookup n==some NameKind.cell) hc.1
       have e:(aq sc aa).names.lookup x=some .cell:=by
        unfold aq;rw[this,hc.2];rfl
       dsimp only at h;rw[e] at h;cases h
      .cases hx
 .exact hi
mutual
theorem vP(σ:ae):∀(t:Tg) {v:V} {fr aR:agq},c7 p t=true->asg σ t v fr=some aR->aR.length=fr.length/\∀i,p i=false->aR[i]?=fr[i]?
 |.var j,v,fr,aR,hp,h=>by
  refine dd (dr ((gu v fr j).symm.trans h)) λ e7 z2=>?_;obtain rfl:=z2;refine⟨List.length_set,λ i hi=>?_⟩;have:j≠i:=by rintro rfl;haveI hi:=(show p j=true from hp)▸hi;exact Bool.noConfusion hi
  exact List.getElem?_set_ne this
 |.tup ts,v,fr,aR,hp,h=>by
  obtain⟨xs,_,h⟩:=qf h;exact tJ σ ts hp h
theorem tJ(σ:ae):∀(ts:List Tg) {xs:List PyData} {fr aR:agq},mQ p ts=true->i8 σ ts xs fr=some aR->aR.length=fr.length/\∀i,p i=false->aR[i]?=fr[i]?
 |[],[],fr,aR,_,h=>by obtain rfl:=bD h;exact⟨rfl,λ _ _=>rfl⟩
 |[],_::_,fr,aR,_,h=>by cases h
 |t::ts,xs,fr,aR,hp,h=>by
  refine dd (cf hp) λ h1 h2=>?_;obtain⟨x,xs,cQ,rfl,e,h⟩:=kK h;refine dd (vP σ t h1 e) λ a1 a2=>?_;refine dd (tJ σ ts h2 h) λ b1 b2=>?_;exact⟨b1.trans a1,λ i hi=>(b2 i hi).trans (a2 i hi)⟩
end
theorem tK(hf:fr.length=sc.vars.length)(tH:c7 (bk (aq sc aa)) t=true)(m:Nat)(y:PyData)(cQ:agq)(h:asg σ t (.d y) (fr++List.replicate m none)=some cQ):(fr++List.replicate m none).length=cQ.length/\∀(i:Nat) (v:V),(fr++List.replicate m none)[i]?=some (some v)->cQ[i]?=some (some v):=by
 refine dd (vP σ t tH h) λ h1 h2=>?_;refine⟨h1.symm,λ i v hi=>?_⟩;refine mH (bk (aq sc aa) i) (λ hc=>?_) (λ hc=>?_)
 ·
  have:=tI hc
  rw[ot (by exact FK hf this),List.getElem?_replicate] at hi;split at hi<;>cases hi
 .rw[h2 i hc];exact hi
theorem yU(ee te ie:Expr)(aa:Scope)(pos:Pos)(acc:Value)(aZ:Env):AV (.ListComp ee [⟨te,ie,[],0⟩] aa pos) 0 te ie ee acc aZ:=λ it=>compTurn_list1 ee te ie aa pos it acc aZ
theorem vQ{RR:Value->Addr->Result->Shared->Prop}{E:Value->Shared->Prop}{J:List PyData->Fz->Heap->Prop}(cx:Cx W n A e0 af L env sc)(iJ:jM sc aa)(oX:∀x c,cl.lookup x=some c->env.cells.lookup x=some c)(vf:∀x∈aa.names,x.2=.free->∃c,cl.lookup x.1=some c)(he:cS W n C (aq sc aa) elt ee)(ht:mz (aq sc aa) t te=true)(tH:c7 (bk (aq sc aa)) t=true)(hp:agF elt=true)(D:Dy W Φ ρ σ (e0::af) env sc.vars fr s.heap)(T:RX W ρ σ (cK (e0::af)) te s.heap.objs.size (·=s.heap.objs.size) J)(hJ:∀av,(∀a o,(s.heap.push oi).get? a=some o->av.get? a=some o)->J items Φ av)(rW:∀{s':Shared} {Q:Value->Shared->Prop} {E:Value->Shared->Prop},(∀a o,(s.heap.push oi).get? a=some o->s'.heap.get? a=some o)->Q (.ref s.heap.objs.size) s'->wpAny (model W.prog W.w) A (pyIter (.ref s.heap.objs.size)) Q E s')(agw:items.length<=lim)(cG:aA (pF W.G C t elt (fr++List.replicate aa.names.length none)) items σ≠.stuck)(fg:∀Dd Cc ys Φ' h' k,aA (pF W.G C t elt (fr++List.replicate aa.names.length none)) items σ=.ok ys σ->DY W Φ ρ (e0::af) env sc.vars fr s.heap Dd Cc ys σ Φ' h'->RR (.ref Dd) Cc (.ok .next) { s with heap:=h',toks:=k}):wpAny (model W.prog W.w) A (newList []) (λ acc dj=>
   wpAny (model W.prog W.w) A (newFunctionEnv aa env.globals cl [] env.qual none .none (some env)) (λ aZ gy=>
    codeAny (model W.prog W.w) A (.compStart (.ListComp ee [⟨te,ie,[],0⟩] aa pos) 0 (.ref s.heap.objs.size) acc { aZ with scope:=relabel aa env}) (RR acc aZ.locals) gy) E dj) E { s with heap:=s.heap.push oi}:=by
 refine wpAny_newObj_type (wpAny_newFunctionEnv iJ.xf (by intro y hy;simp at hy) (λ av lJ lK=>?_) iJ.kind);dsimp only at lJ lK ⊢;generalize NP:s.heap.push oi=H1 at lJ lK hJ rW ⊢;generalize GS:H1.push { cls:=.type "list",dict:=none,data:=.seq ([]:List Value).toArray}=H2 at lJ lK ⊢;have od:H1.objs.size=s.heap.objs.size+1:=by rw[←NP,Heap.size_push]
 have q8:H2.objs.size=s.heap.objs.size+2:=by rw[←GS,Heap.size_push,od]
 have k1:∀a o,s.heap.get? a=some o->H1.get? a=some o:=λ a o e=>NP▸dA _ e;have k2:∀a o,H1.get? a=some o->H2.get? a=some o:=λ a o e=>GS▸dA _ e;have k3:∀a o,H2.get? a=some o->av.get? a=some o:=λ a o e=>lK.extBut a o (dI (eE e)) (dA _ e);have kk:∀a o,s.heap.get? a=some o->av.get? a=some o:=λ a o e=>k3 a o (k2 a o (k1 a o e));have N:yR s.heap s.heap.objs.size H1.objs.size H2.objs.size:=⟨bQ (cy _),bQ (by rw[od];exact kF),bQ (by rw[q8];exact kF),dI (by rw[od];exact mF),dI (by rw[q8];exact F5 rfl),dI (by rw[od,q8];exact mF)⟩;have GU:av.get? H1.objs.size=some (dE [] 0):=k3 _ _ (by rw[←GS];exact d5 _ rfl);have D1:Dy W Φ ρ σ (e0::af) env sc.vars fr av:=D.step (agA.bo kk) (D.inv.ext kk);have ap:∀a,s.heap.get? a=none->agQ env ρ (cK (e0::af)) a:=λ a q=>Dy.alive (sc:=sc) D q;have NT:∀a,s.heap.get? a=none->a≠H2.objs.size->agQ (compEnvC aa cl H2.objs.size env) ρ (cK (e0::af)) a:=λ a q ne=>⟨ne,λ x hx=>(ap a q).2.1 x (oX x a hx),(ap a q).2.2⟩;have Dc:Dy W Φ ρ σ (e0::af) (compEnvC aa cl H2.objs.size env) (aq sc aa).vars (fr++List.replicate aa.names.length none) av:=
  ⟨D1.inv,D1.pZ,lH cx D1 iJ oX vf lJ (D.inv.bp N.yS) (ap _ N.yS).2.2.1 (ap _ N.yS).2.1⟩
 have S:PS W ρ σ (e0::af) env sc.vars fr (compEnvC aa cl H2.objs.size env) (aq sc aa).vars (fr++List.replicate aa.names.length none) H1.objs.size (λ Φ' h=>agA ρ (cK (e0::af)) Φ s.heap Φ' h) Φ av []:=
  ⟨D1,Dc,agA.bo kk,D.inv.bp N.AB,⟨[],0,GU,.nil⟩⟩
 have loop:∀dj:Shared,dj={ s with heap:=av,toks:=s.toks+([]:List (Str×Value)).length} ->
   codeAny (model W.prog W.w) A (.compLoop (.ListComp ee [⟨te,ie,[],0⟩] aa pos) 0 (.ref s.heap.objs.size) (.ref H1.objs.size) (compEnvC aa cl H2.objs.size env)) (RR (.ref H1.objs.size) H2.objs.size) dj:=by
  rintro dj rfl;refine oZ (sc:=sc) (fr:=fr) (env:=env) T (yU ee te ie aa pos _ _) (λ h=>codeAny_of_tree h) (sN cx iJ cl H2.objs.size) he ht tH (λ i hi=>qh cx i hi) hp (λ y cQ h=>tK D.eC.len tH _ y cQ h) (r5 (Φs:=Φ) (hs:=s.heap)) (qP (N.Cz)) N.AB N.yS ap (qP (NT _ N.Cz N.n2)) (λ q=>N.n1 q.symm) (NT _ N.AB N.n3)
   items (hJ _ λ a o e=>k3 _ _ (k2 _ _ e)) S (by simpa using agw) cG λ ys Φ' h' k e S'=>?_
  exact fg _ _ ys Φ' h' k e ⟨N.AB,N.yS,N.n3,S'.dy,S'.bs,S'.dc.eC.JQ,S'.sO,S'.dc.eC.ns,S'.acc⟩
 exact codeAny_compStart_list (loop _ rfl) (rW (λ a o e=>k3 _ _ (k2 _ _ e)) (loop _ rfl))
end
section
variable {fs ρ:List Addr}{σ:ae}{W:Wd}
theorem agA.sQ{Φ:Fz}(S:agA ρ fs Φs hs Φ h)(hT:hs.get? T=none)(k:∀a o,a≠T->h.get? a=some o->h'.get? a=some o):agA ρ fs Φs hs Φ h':=by
 have old:∀a o,hs.get? a=some o->a≠T:=λ a o e q=>by rw[q,hT] at e;cases e
 refine⟨S.ext,S.fresh,⟨λ a o e=>?_,λ a o h1 h2 e=>k a o (old a o e) (S.kp.keep a o h1 h2 e),λ a o h1 e=>?_⟩⟩
 .refine bK (S.kp.alive a o e) λ o' e'=>?_;exact⟨o',k a o' (old a o e) e'⟩
 .refine bK (S.kp.slots a o h1 e) λ sl e'=>?_;exact⟨sl,k a _ (old a o e) e'⟩
theorem vR(h:rV σ m=some xs):σ[m]?=some (.lst xs):=by
 unfold rV at h;split at h
 .rename_i q;obtain rfl:=bD h;exact q
 .cases h
theorem G1{n:Nat}{C:aG}{sc:Sc}(pK:fh sc aa=true)(lL:ef ie=true)(hit:cS W n C sc it ie)(hi:mU W n C (aq sc aa) ifs sP)(he:cS W n C (aq sc aa) elt ee)(ht:mz (aq sc aa) t te=true)(tH:c7 (bk (aq sc aa)) t=true)(AX:ifs=[]->sP=[]):cS W n C sc (.comp aa.names.length elt t it ifs) (.ListComp ee [⟨te,ie,sP,0⟩] aa pos):=by
 intro A e0 af L env s Φ ρ σ fr cx D;have iJ:=hY pK;refine gp (js (env:=env) (kN cx D iJ)) λ cl qk oX vf=>?_;rw[pV];refine au.of (P':=λ Q E s=>wpAny (model W.prog W.w) A (eval ie env) (λ x aL=>J0 W A aa env cl (.ListComp ee [⟨te,ie,sP,0⟩] aa pos) (compPost (model W.prog W.w) A E none Q) E x aL) E s) (λ Q E h=>?_) ?_
 .rw[eval_ListComp];exact wpAny_comprehension_free rfl (λ x=>dT lL x) qk iJ.kind (λ x hx hl=>dv iJ.nodup (by rw[←hl];exact hx)) h
 .refine au.seq (P2:=λ x Q E aL=>J0 W A aa env cl (.ListComp ee [⟨te,ie,sP,0⟩] aa pos) (compPost (model W.prog W.w) A E none Q) E x aL) (hit cx D) λ u x aX cJ av k₁ oU du aW dY=>?_;have hW:=D.step aW du;induction x with
  |loc m=>
   refine au.opt λ xs AS=>au.ite (λ hc=>?_) λ _=>.stuck;refine dd hc λ hc agw=>?_;refine dd (cf hc) λ hp Xp=>?_;obtain rfl:=agX Xp;obtain rfl:=AX rfl;intro Q E cG fg fk;obtain⟨a,ha,rfl⟩:=dY;have eP:=vR AS;obtain⟨vs,nn,hg,rs⟩:=du.cell m a _ ha eP;have gP:av.get? av.objs.size=none:=Heap.br _;have ap:=Dy.alive (sc:=sc) hW gP;refine wpAny_pyIter_list (s:={ s with heap:=av,toks:=k₁}) ⟨_,hg,rfl,nn,rfl⟩ ?_;refine vQ (s:={ s with heap:=av,toks:=k₁}) (C:=C) (elt:=elt) (t:=t) (J:=PO aX m a av.objs.size) (items:=xs) cx iJ oX vf he ht tH hp hW (CD ha ap.2.2.1 ap.2.2.2) (λ aQ kk=>⟨xs,0,eP,rfl,du.bp gP,_,kk _ _ (d5 _ rfl),rfl,rfl⟩)
    (λ kk hQ=>wpAny_pyIter_listiter (l:=a) (i:=0) ⟨_,kk _ _ (d5 _ rfl),rfl,rfl⟩ hQ) agw ?_ ?_
   .intro q;refine cG ?_;show(aA (pF W.G C t elt (fr++List.replicate aa.names.length none)) xs aX).bind _=_;rw[q];rfl
   .intro Dd Cc ys Φ' h' k e' Z;exact⟨_,Z.c3.choose_spec,λ cb mA=>(Z.fe hW mA).elim λ o q=>fg (.ref Dd) (.d (.list ys)) aX _ cb k (congrArg (Res.bind _) e') q.2.1 q.2.2.1 q.2.2.2⟩
  |d x=>
  refine au.opt λ items hx=>au.ite (λ agw=>?_) λ _=>.stuck;intro Q E cG fg fk;refine yT (s:={ s with heap:=av,toks:=k₁}) (C:=C) (ifs:=ifs) (elt:=elt) (t:=t) cx iJ oX vf hi he ht tH hW dY hx agw ?_ ?_ ?_
  .intro q;refine cG ?_;show(aA (gL W.G C t ifs elt (fr++List.replicate aa.names.length none)) items aX).bind _=_;rw[q];rfl
  .intro Dd Cc ys aM Φ' h' k e' Z;exact⟨_,Z.c3.choose_spec,λ cb mA=>(Z.fe hW mA).elim λ o q=>fg (.ref Dd) (.d (.list ys)) aM _ cb k (congrArg (Res.bind _) e') q.2.1 q.2.2.1 q.2.2.2⟩
  .intro Dd Cc e aM Φ' h' k e' hC D' GQ c1 c2 T';refine⟨_,c2.choose_spec,λ cb mA aZ _=>?_⟩;have aC:=hW.apart hC c1;have KS:Dy W Φ' ρ aM (e0::af) env sc.vars fr cb:=D'.other ⟨aC.1,aC.2.1,aC.2.2.1,aC.2.2.2.1⟩ c1 λ a o eZ q=>(mA.2 a eZ).trans q;have xh:=GQ.sQ hC λ a o eZ q=>(mA.2 a eZ).trans q;refine CB (s:={ s with heap:=cb,toks:=k}) (h:=av) KS.inv KS.pZ xh.kp (T'.sameBut mA c2) λ aO fE iC ql=>?_;refine fk e aM Φ' aO k ?_ fE ⟨xh.ext,xh.fresh,iC⟩ ql;show(aA (gL W.G C t ifs elt (fr++List.replicate aa.names.length none)) items aX).bind _=_;rw[e'];rfl
theorem yV{prog:Program}{w:World}{A:Around}{s:Shared}{R:Result->Shared->Prop}{elt mf mB og jO aa pos it acc env}(h0:codeAny (model prog w) A (.compLoop (.ListComp elt [⟨mf,mB,[],0⟩,⟨og,jO,[],0⟩] aa pos) 1 it acc env) R s)(h:wpAny (model prog w) A (pyIter it) (λ PQ s'=>codeAny (model prog w) A (.compLoop (.ListComp elt [⟨mf,mB,[],0⟩,⟨og,jO,[],0⟩] aa pos) 1 PQ acc env) R s')
   (notedBy (model prog w) A env λ x s'=>R (.error x) s') s):codeAny (model prog w) A (.compStart (.ListComp elt [⟨mf,mB,[],0⟩,⟨og,jO,[],0⟩] aa pos) 1 it acc env) R s:=by
 refine codeAny_of_tree ?_;refine wpAny_notedAt ?_;refine ak (wpAny_askSetting (wpAny_ite ?_));split
 .first
   |exact ak (aF (aF (And.intro rfl h0)))
   |exact aF (And.intro rfl h0)
 .first
   |exact ak (wpAny_rule (ak (gH (ak (cj h (λ PQ s' h'=>aF (And.intro rfl h')) λ _ _ x=>x)))))
   |(refine ak (wpAny_rule ?_);show wpAny _ _ (standAt jO.pos >>= _) _ _ s;exact ak (gH (ak (cj h (λ PQ s' h'=>aF (And.intro rfl h')) λ _ _ x=>x))))
theorem AY(ee mf mB og jO:Expr)(aa:Scope)(pos:Pos)(acc:Value)(aZ:Env):AV (.ListComp ee [⟨mf,mB,[],0⟩,⟨og,jO,[],0⟩] aa pos) 1 og jO ee acc aZ:=λ it=>rfl
theorem tL(ee mf mB og jO:Expr)(aa:Scope)(pos:Pos)(it acc:Value)(aZ:Env):compTurn (.ListComp ee [⟨mf,mB,[],0⟩,⟨og,jO,[],0⟩] aa pos) 0 it acc aZ =
  (standAt mB.pos >>= λ _=>pyNext it >>= λ r=>match r with
   |none=>pure (.done .next)
   |some v=>letOwnedTupleGo mf it v >>= λ _=>assign mf aZ v >>= λ _=>
    eval jO aZ >>= λ x=>standAt jO.pos >>= λ _=>foldedSetIterable jO aZ x >>= λ x=>holding [x] (pyIter x) >>= λ i=>runOwn (.compStart (.ListComp ee [⟨mf,mB,[],0⟩,⟨og,jO,[],0⟩] aa pos) 1 i acc aZ) aZ >>= λ _=>
     again (.compLoop (.ListComp ee [⟨mf,mB,[],0⟩,⟨og,jO,[],0⟩] aa pos) 0 it acc aZ)):=by
 unfold compTurn;simp;rfl
def JFz(it:Addr)(xs:List PyData)(Φ:Fz)(h:Heap):Prop:=Φ it=none/\∃vs,kL Φ h it vs/\dF Φ vs xs
theorem kL.live{Φ:Fz}{h:Heap}{it:Addr}{vs:List Value}(x:kL Φ h it vs):∃o,h.get? it=some o:=by
 induction x with
 |list _ _ h3=>obtain⟨o,e,_⟩:=h3;exact⟨o,e⟩
 |tuple _ _ h3=>obtain⟨o,e,_⟩:=h3;exact⟨o,e⟩
theorem G2{it:Addr}{te:Expr}(hit:it∉ρ):RX W ρ σ fs te it (·=it) (JFz it) where
 YM:=by rintro xs Φ h ⟨q,_⟩ b rfl;exact q
 live:=by rintro xs Φ h ⟨_,vs,q,_⟩ b rfl;exact q.live
 keep:=by
  rintro xs Φ Φ' h h' ⟨h1,vs,h2,h3⟩ I ext fresh k;letI o:=(h2.live).choose;haveI e:=(h2.live).choose_spec;exact⟨(fresh _ _ e).trans h1,vs,h2.keep ext I.fe λ o e=>k it o rfl e,h3.mono ext⟩
 next:=by
  rintro A s Φ xs x Q E I ⟨h1,vs,h2,h3⟩ hQ;cases h3 with
  |cons r rs=>
   refine xd h2 h1 λ h' hi hs hl=>⟨_,rfl,?_⟩;refine GO (s:={ s with heap:=h'}) hi ?_;exact hQ _ Φ h' ⟨h1,_,hi,rs⟩ (λ _ _ q=>q) (λ _ _ _=>rfl) (I.other (X:=(·=it)) (λ b o hb e=>(hs.2 b hb).trans e) (qP (h1)) (qP (hit))) (Kq.one λ b o hb e=>(hs.2 b hb).trans e) r
 stop:=by
  rintro A s Φ Q E hh I ⟨h1,vs,h2,h3⟩ hQ;cases h3;refine AU hh h2 λ h' hx=>?_;exact hQ h' (I.other (X:=(·=it)) (λ b o hb e=>hx b o hb e) (qP (h1)) (qP (hit))) (Kq.one λ b o hb e=>hx b o hb e)
end
theorem kj{f:PyData->ae->Res (Option PyData)}:∀{items:List PyData} {σ aM:ae} {ys:List PyData},aA f items σ=.ok ys aM->ys.length<=items.length
 |[],σ,aM,ys,h=>by cases h;exact cy _
 |x::xs,σ,aM,ys,h=>by
  refine gq (Res.Kd (show(f x σ).bind _=_ from h)) λ o aX _ h=>?_;refine gq (Res.Kd h) λ zs dG hr h=>?_;cases h;induction o with
  |none=>exact eR (kj hr)
  |some y=>exact cv (kj hr)
def oF(G:List PyData)(C:aG)(t1:Tg)(it2:E)(t2:Tg)(elt:E)(oa:agq)(y:PyData)(σ:ae):Res (List PyData):=
 (Res.of σ (asg σ t1 (.d y) oa)).bind λ cQ σ=>(evE G C it2 cQ σ).bind λ v2 σ=>match v2 with
      |.d x2=>(Res.of σ (agt x2)).bind λ gv σ=>
       if gv.length<=1000 then aA (pF G C t2 elt cQ) gv σ else .stuck
      |.loc _=>.stuck
section
variable {W:Wd}{n:Nat}{C:aG}{A:Around}{aZ e0 env:Env}{af:List Env}{L it:Addr}{yl sc:Sc}{ρ:List Addr}{σ:ae}{fr oa:agq}{aa:Scope}{pos:Pos}{J:List PyData->Fz->Heap->Prop}{elt qQ it2:E}{t1 t2:Tg}{ee mB jO mf og:Expr}{cl:List (Str×Addr)}
theorem AZ{Dd:Addr}{X Y:Addr->Prop}{Bs:Fz->Heap->Prop}{R:Result->Shared->Prop}{p:Nat->Bool}(T:RX W ρ σ (cK (e0::af)) mf it X J)(Ft:Cx W n A e0 af L aZ yl)(he:cS W n C yl elt ee)(he2:cS W n C yl it2 jO)(lL:ef jO=true)(A0:mz yl t1 mf=true)(D0:mz yl t2 og=true)(vg:c7 p t1=true)(vh:c7 p t2=true)(K1:∀i,p i=true->RV yl aZ (·=aZ.locals) i)(hp:agF elt=true)(NU:agF it2=true)(hw:∀y cQ,asg σ t1 (.d y) oa=some cQ->(oa.length=cQ.length/\∀(i:Nat) (v:V),oa[i]?=some (some v)->cQ[i]?=some (some v))/\∀z hG,asg σ t2 (.d z) cQ=some hG->cQ.length=hG.length/\∀(i:Nat) (v:V),cQ[i]?=some (some v)->hG[i]?=some (some v))(cl:oY W ρ σ (cK (e0::af)) Y Bs)(GW:∀a,X a->Y a)(NS:Y Dd)(RY:Y aZ.locals)(h1:∀a,Y a->agQ env ρ (cK (e0::af)) a)(h2:∀a,X a->agQ aZ ρ (cK (e0::af)) a)(h3:¬X Dd)(h4:agQ aZ ρ (cK (e0::af)) Dd)(gP:∀{Φ h},Bs Φ h->∀a,h.get? a=none->Y a)(A1:∀x c,aZ.cells.lookup x=some c->env.cells.lookup x=some c):∀(items:List PyData) {s:Shared} {Φ:Fz} {acc:List PyData},J items Φ s.heap->PS W ρ σ (e0::af) env sc.vars fr aZ yl.vars oa Dd Bs Φ s.heap acc->acc.length+1000 * items.length<=lim ->
   agz (oF W.G C t1 it2 t2 elt oa) items σ≠.stuck ->
   (∀ys Φ' h' k,agz (oF W.G C t1 it2 t2 elt oa) items σ=.ok ys σ->PS W ρ σ (e0::af) env sc.vars fr aZ yl.vars oa Dd Bs Φ' h' (acc++ys)->R (.ok .next) { s with heap:=h',toks:=k}) ->
   codeAny (model W.prog W.w) A (.compLoop (.ListComp ee [⟨mf,mB,[],0⟩,⟨og,jO,[],0⟩] aa pos) 0 (.ref it) (.ref Dd) aZ) R s:=by
 intro items;induction items with
 |nil=>
  intro s Φ acc hJ S agw cG fg;refine codeAny_of_tree ?_;refine wpAny_noted ?_;rw[tL];refine ak (gH (ak (T.stop Ft.handled S.dy.inv hJ λ h' I' K'=>aF ?_)));haveI S':=S.kp cl K' (λ _ _ q=>q) (λ _ _ _=>rfl) I' GW (λ a q=>h1 a (GW a q)) h2 h3 h4.2.2.2;exact fg [] Φ h' s.toks rfl (by simpa using S')
 |cons x xs ih=>
  intro s Φ acc hJ S agw cG fg;refine codeAny_of_tree ?_;show wpAny _ A ((compTurn (.ListComp ee [⟨mf,mB,[],0⟩,⟨og,jO,[],0⟩] aa pos) 0 (.ref it) (.ref Dd) aZ).onRaise (λ x=>do noteFrame x aZ;theTreesLotGoes x)) _ _ s;refine wpAny_noted ?_;rw[tL];refine ak (gH (ak (cj (T.next (s:=s) (Q:=λ v bB=>wpAny (model W.prog W.w) A (assign mf aZ v >>= λ _=>
    eval jO aZ >>= λ x=>standAt jO.pos >>= λ _=>foldedSetIterable jO aZ x >>= λ x=>holding [x] (pyIter x) >>= λ i=>runOwn (.compStart (.ListComp ee [⟨mf,mB,[],0⟩,⟨og,jO,[],0⟩] aa pos) 1 i (.ref Dd) aZ) aZ >>= λ _=>
     again (.compLoop (.ListComp ee [⟨mf,mB,[],0⟩,⟨og,jO,[],0⟩] aa pos) 0 (.ref it) (.ref Dd) aZ)) (λ f s'=>match f with|.done r=>R (.ok r) s' | .again c=>c.quiet=true/\codeAny (model W.prog W.w) A c R s') (notedBy (model W.prog W.w) A aZ λ x s'=>R (.error x) s') bB) S.dy.inv hJ λ v cJ av qi AW rY du wW dY=>?_) (λ r aL h=>?_) λ _ _ h=>h)))
  .have aW:=S.kp cl wW AW rY du GW (λ a q=>h1 a (GW a q)) h2 h3 h4.2.2.2
   (first|rw[Ny] at cG fg|rw[Nz] at cG fg)
   unfold oF at cG fg;refine cq (asg σ t1 (.d x) oa) (λ ha=>?_) (λ cQ ha=>?_)
   .rw[ha] at cG;exact absurd rfl cG
   ·
    rw[ha] at cG fg;simp only[Res.bx,Res.ax] at cG fg;obtain⟨⟨uY,PN⟩,UW⟩:=hw x cQ ha;refine ak (oV t1 mf A0 (s:={ s with heap:=av}) p Ft aW.dc vg K1 (v:=.d x) dY ha λ aQ k₂ jF fM=>?_);haveI hC:agQ env ρ (cK (e0::af)) aZ.locals:=h1 _ RY;haveI cT:PS W ρ σ (e0::af) env sc.vars fr aZ yl.vars cQ Dd Bs cJ aQ acc:=by
     obtain⟨ds,m,e,r⟩:=aW.acc;exact⟨aW.dy.RW fM.kq (λ _ _ q=>q) (λ _ _ _=>rfl) jF.inv (qP (hC)),jF,cl aW.bs (λ _ _ q=>q) (λ _ _ _=>rfl) (fM.kq.mono (qP (.inl RY))) jF.inv,aW.sO,⟨ds,m,fM.keep _ _ h4.1 h4.2.2.2 e,r⟩⟩
    refine ak ?_;refine he2 (s:={ s with heap:=aQ,toks:=k₂}) Ft jF _ _ ?_ ?_ ?_
    .intro q;rw[q] at cG;exact cG rfl
    .intro u z aM d6 aO cM kg fE qj q6;haveI YN:σ=aM:=(agL W.G C cQ σ it2 NU).elim (λ k=>k.elim λ _ q=>GX (q.symm.trans kg)) λ q=>GY (q.symm.trans kg);subst YN;rw[kg] at cG fg;simp only[Res.ax] at cG fg;induction z with
     |loc=>exact absurd rfl cG
     |d z=>
     dsimp only at cG fg;cases hit:agt z with
     |none=>rw[hit] at cG;exact absurd rfl cG
     |some gv=>
     rw[hit] at cG fg;simp only[Res.bx,Res.ax] at cG fg;by_cases hle:gv.length<=1000;case neg=>rw[if_neg hle] at cG;exact absurd rfl cG
     rw[if_pos hle] at cG fg;have bF:=cT.step cl qj fE h4.2.2.1 h4.2.2.2;have NV:J xs d6 aO:=T.keep (T.keep qi jF.inv (λ _ _ q=>q) (λ _ _ _=>rfl) λ a o q e=>fM.keep a o (h2 a q).1 (h2 a q).2.2.2 e) fE qj.ext qj.fresh λ a o q e=>qj.kp.keep a o (h2 a q).2.2.1 (h2 a q).2.2.2 e;refine ak (gH (ak ?_));rw[dT lL];refine aF (ak (eD (qg (s:={ s with heap:=aO,toks:=cM}) fE q6 hit λ oi vs US nG G3=>?_)));haveI UX:aO.get? aO.objs.size=none:=Heap.br _;have hY2:Y aO.objs.size:=gP bF.bs _ UX;haveI a2:=h1 _ hY2;have aC:aO.objs.size≠aZ.locals:=by
      rintro q;obtain⟨m,o,_,_,e,_⟩:=bF.dc.eC.ns;rw[←q,UX] at e;cases e
     haveI a2c:agQ aZ ρ (cK (e0::af)) aO.objs.size:=⟨aC,λ x hx=>a2.2.1 x (A1 x _ hx),a2.2.2⟩;haveI hX2:¬X aO.objs.size:=λ q=>by
      obtain⟨o,e⟩:=T.live NV _ q;rw[UX] at e;cases e
     have kk:∀a o,aO.get? a=some o->(aO.push oi).get? a=some o:=bY _ _;haveI UY:=fE.ext kk;haveI lI:=bF.step cl (agA.bo kk) UY h4.2.2.1 h4.2.2.2;have YO:aO.objs.size≠Dd:=by
      rintro q;obtain⟨ds,m,e,_⟩:=bF.acc;rw[←q,UX] at e;cases e
     refine ak (wpAny_runOwn ?_);haveI inner:∀{lG:Shared},lG={ s with heap:=aO.push oi,toks:=cM}->codeAny (model W.prog W.w) A (.compLoop (.ListComp ee [⟨mf,mB,[],0⟩,⟨og,jO,[],0⟩] aa pos) 1 (.ref aO.objs.size) (.ref Dd) aZ)
       (λ r s'=>match r with
        |.ok f=>wpAny (model W.prog W.w) A (again (.compLoop (.ListComp ee [⟨mf,mB,[],0⟩,⟨og,jO,[],0⟩] aa pos) 0 (.ref it) (.ref Dd) aZ)) (λ f s'=>match f with|.done r=>R (.ok r) s' | .again c=>c.quiet=true/\codeAny (model W.prog W.w) A c R s') (notedBy (model W.prog W.w) A aZ λ x s'=>R (.error x) s') s'
        |.error e=>cameBackBy (model W.prog W.w) A aZ (notedBy (model W.prog W.w) A aZ λ x s'=>R (.error x) s') e s') lG:=by
      rintro lG rfl;haveI cl':oY W ρ σ (cK (e0::af)) (λ a=>Y a/\¬X a) (λ Φ h=>Bs Φ h/\J xs Φ h):=by
       rintro Φ Φ' h h' ⟨b,j⟩ ext fresh k I;refine⟨cl b ext fresh (k.mono λ a q=>q.imp (·.1) id) I,T.keep j I ext fresh λ a o q e=>k.keep a o ?_ (h2 a q).2.2.2 e⟩;rintro(q'|q')
       .exact q'.2 q
       .exact(h2 a q).2.2.1 q'
      refine oZ (sc:=sc) (fr:=fr) (env:=env) (p:=p) (J:=JFz aO.objs.size) (X:=λ a=>a=aO.objs.size) (G2 a2.2.2.1) (AY ee mf mB og jO aa pos _ _) (λ h=>codeAny_of_tree h) Ft he D0 vh K1 hp UW cl' (qP (⟨hY2,hX2⟩)) ⟨NS,h3⟩ ⟨RY,λ q=>(h2 _ q).1 rfl⟩ (λ a q=>h1 a q.1) (qP (a2c)) (λ q=>YO q.symm) h4
       gv ⟨fE.bp UX,vs,G3,US⟩ (⟨lI.dy,lI.dc,⟨lI.bs,(T.keep NV UY (λ _ _ q=>q) (λ _ _ _=>rfl) λ a o _ e=>kk a o e)⟩,lI.sO,lI.acc⟩) (by simp only[List.length_cons] at agw;exact MP agw hle rfl) ?_ ?_
      .intro q;rw[q] at cG;exact cG rfl
      .intro ys abH GL YQ UZ yW;refine aF ⟨rfl,?_⟩;rw[UZ] at cG fg;simp only[Res.ax] at cG fg;refine ih (s:={ s with heap:=GL,toks:=YQ}) yW.bs.2 ⟨yW.dy,yW.dc.weaken uY PN,yW.bs.1,yW.sO,yW.acc⟩ ?_ ?_ λ zs U0 q9 PT U1 PU=>fg (ys++zs) U0 q9 PT ?_ (by simpa using PU)
       .haveI:=kj UZ;simp only[cO,List.length_cons] at agw ⊢;exact ao (ao (d7 (eB (ao this hle) _) _) (bV (by rw[Nat.mul_succ,Nat.add_assoc,Nat.add_comm 1000]))) agw
       .intro q;unfold oF at q;rw[q] at cG;exact cG rfl
       .unfold oF at U1;rw[U1];rfl
     exact yV (inner rfl) (xe G3 (inner rfl))
    .exact λ e' aM Φ' h' k kg=>(agL W.G C cQ σ it2 NU).elim (λ k=>k.elim λ _ q=>GZ (q.symm.trans kg)) λ q=>CC (q.symm.trans kg)
  .obtain⟨v,rfl,h⟩:=h;exact ak h
theorem PW(h:lD t1 t2=true):∃i j,t1=.var i/\t2=.var j/\i≠j:=by
 cases t1 with
 |tup=>exact Bool.noConfusion h
 |var i=>
  cases t2 with
  |tup=>exact Bool.noConfusion h
  |var j=>exact⟨i,j,rfl,rfl,λ q=>by subst q;simp[lD] at h⟩
theorem G4(hf:fr.length=sc.vars.length)(hd:lD t1 t2=true)(vg:c7 (bk (aq sc aa)) t1=true)(vh:c7 (bk (aq sc aa)) t2=true)(m:Nat)(y:PyData)(cQ:agq)(h:asg σ t1 (.d y) (fr++List.replicate m none)=some cQ):((fr++List.replicate m none).length=cQ.length/\∀(i:Nat) (v:V),(fr++List.replicate m none)[i]?=some (some v)->cQ[i]?=some (some v)) /\
   ∀z hG,asg σ t2 (.d z) cQ=some hG->cQ.length=hG.length/\∀(i:Nat) (v:V),cQ[i]?=some (some v)->hG[i]?=some (some v):=by
 refine⟨tK hf vg m y cQ h,λ z hG h2=>?_⟩;refine B9 (PW hd) λ i j z3 z4 eZ=>?_;obtain rfl:=z3;obtain rfl:=z4;haveI z2:=((dr ((gu _ _ i).symm.trans h))).2;obtain rfl:=z2;haveI z2:=((dr ((gu _ _ j).symm.trans h2))).2;obtain rfl:=z2;refine⟨List.length_set.symm,λ l v hl=>?_⟩;by_cases q:j=l
 .subst q;rw[List.getElem?_set_ne eZ] at hl;haveI:=tI (sc:=sc) (aa:=aa) vh;rw[ot (by exact FK hf this),List.getElem?_replicate] at hl;split at hl<;>cases hl
 .rw[List.getElem?_set_ne q];exact hl
theorem vS{s:Shared}{Φ:Fz}{elt it2:E}{RR:Value->Addr->Result->Shared->Prop}{E:Value->Shared->Prop}{items:List PyData}(cx:Cx W n A e0 af L env sc)(iJ:jM sc aa)(oX:∀x c,cl.lookup x=some c->env.cells.lookup x=some c)(vf:∀x∈aa.names,x.2=.free->∃c,cl.lookup x.1=some c)(yX:ef jO=true)(xi:cS W n C (aq sc aa) it2 jO)(he:cS W n C (aq sc aa) elt ee)(A0:mz (aq sc aa) t1 mf=true)(vg:c7 (bk (aq sc aa)) t1=true)(D0:mz (aq sc aa) t2 og=true)(vh:c7 (bk (aq sc aa)) t2=true)(hd:lD t1 t2=true)(NU:agF it2=true)(hp:agF elt=true)(D:Dy W Φ ρ σ (e0::af) env sc.vars fr s.heap){u:Value}{x:PyData}(hu:RD Φ u x)(hx:agt x=some items)(agw:items.length<=1000)(cG:agz (oF W.G C t1 it2 t2 elt (fr++List.replicate aa.names.length none)) items σ≠.stuck)(fg:∀Dd Cc ys Φ' h' k,agz (oF W.G C t1 it2 t2 elt (fr++List.replicate aa.names.length none)) items σ=.ok ys σ->DY W Φ ρ (e0::af) env sc.vars fr s.heap Dd Cc ys σ Φ' h'->RR (.ref Dd) Cc (.ok .next) { s with heap:=h',toks:=k}):J0 W A aa env cl (.ListComp ee [⟨mf,mB,[],0⟩,⟨og,jO,[],0⟩] aa pos) RR E u s:=by
 refine qg D.inv hu hx λ oi vs US nG G3=>?_;refine wpAny_newObj_type (wpAny_newFunctionEnv iJ.xf (by intro y hy;simp at hy) (λ aQ A2 A3=>?_) iJ.kind);generalize NP:s.heap.push oi=H1 at A2 A3 G3 ⊢;generalize GS:H1.push { cls:=.type "list",dict:=none,data:=.seq ([]:List Value).toArray}=H2 at A2 A3 ⊢;haveI od:H1.objs.size=s.heap.objs.size+1:=by simp only[←NP,Heap.size_push]
 haveI q8:H2.objs.size=s.heap.objs.size+2:=by simp only[←GS,Heap.size_push,od]
 haveI k1:∀a o,s.heap.get? a=some o->H1.get? a=some o:=λ a o e=>NP▸dA _ e;have k2:∀a o,H1.get? a=some o->H2.get? a=some o:=λ a o e=>GS▸dA _ e;have k3:∀a o,H2.get? a=some o->aQ.get? a=some o:=λ a o e=>A3.extBut a o (dI (eE e)) (dA _ e);have kk:∀a o,s.heap.get? a=some o->aQ.get? a=some o:=λ a o e=>k3 a o (k2 a o (k1 a o e));have N:yR s.heap s.heap.objs.size H1.objs.size H2.objs.size:=⟨bQ (cy _),bQ (by rw[od];exact kF),bQ (by rw[q8];exact kF),dI (by rw[od];exact mF),dI (by rw[q8];exact F5 rfl),dI (by simp only[od,q8];exact mF)⟩;haveI GU:aQ.get? H1.objs.size=some (dE [] 0):=k3 _ _ (by rw[←GS];exact d5 _ rfl);have D2:Dy W Φ ρ σ (e0::af) env sc.vars fr aQ:=D.step (agA.bo kk) (D.inv.ext kk);have ap:∀a,s.heap.get? a=none->agQ env ρ (cK (e0::af)) a:=λ a q=>Dy.alive (sc:=sc) D q;have NT:∀a,s.heap.get? a=none->a≠H2.objs.size->agQ (compEnvC aa cl H2.objs.size env) ρ (cK (e0::af)) a:=λ a q ne=>⟨ne,λ x hx=>(ap a q).2.1 x (oX x a hx),(ap a q).2.2⟩;haveI Dc:Dy W Φ ρ σ (e0::af) (compEnvC aa cl H2.objs.size env) (aq sc aa).vars (fr++List.replicate aa.names.length none) aQ:=
  ⟨D2.inv,D2.pZ,lH cx D2 iJ oX vf A2 (D.inv.bp N.yS) (ap _ N.yS).2.2.1 (ap _ N.yS).2.1⟩
 haveI S:PS W ρ σ (e0::af) env sc.vars fr (compEnvC aa cl H2.objs.size env) (aq sc aa).vars (fr++List.replicate aa.names.length none) H1.objs.size (λ Φ' h=>agA ρ (cK (e0::af)) Φ s.heap Φ' h) Φ aQ []:=
  ⟨D2,Dc,agA.bo kk,D.inv.bp N.AB,⟨[],0,GU,.nil⟩⟩
 have NW:kL Φ aQ s.heap.objs.size vs:=G3.keep (λ _ _ q=>q) D2.inv.fe λ o q=>k3 _ _ (k2 _ _ q);haveI loop:∀dj:Shared,dj={ s with heap:=aQ,toks:=s.toks+([]:List (Str×Value)).length} ->
   codeAny (model W.prog W.w) A (.compLoop (.ListComp ee [⟨mf,mB,[],0⟩,⟨og,jO,[],0⟩] aa pos) 0 (.ref s.heap.objs.size) (.ref H1.objs.size) (compEnvC aa cl H2.objs.size env)) (RR (.ref H1.objs.size) H2.objs.size) dj:=by
  rintro dj rfl;refine AZ (sc:=sc) (fr:=fr) (env:=env) (G2 (ap _ N.Cz).2.2.1) (sN cx iJ cl H2.objs.size) he xi yX A0 D0 vg vh (λ i hi=>qh cx i hi) hp NU (λ y cQ h=>G4 D.eC.len hd vg vh _ y cQ h) (r5 (Φs:=Φ) (hs:=s.heap)) (qP (N.Cz)) N.AB N.yS ap (qP (NT _ N.Cz N.n2)) (λ q=>N.n1 q.symm) (NT _ N.AB N.n3)
   (λ B a q=>?_) oX items ⟨D.inv.bp N.Cz,vs,NW,US⟩ S (by dsimp only[List.length_nil,lim];exact rP agw rfl) cG λ ys Φ' h' k e' S'=>?_
  .refine cq (s.heap.get? a) (λ e=>?_) (λ o e=>?_)
   .rfl
   .obtain⟨o',e'⟩:=B.kp.alive a o e;rw[q] at e';cases e'
  .exact fg _ _ ys Φ' h' k e' ⟨N.AB,N.yS,N.n3,S'.dy,S'.bs,S'.dc.eC.JQ,S'.sO,S'.dc.eC.ns,S'.acc⟩
 exact codeAny_compStart_list (loop _ rfl) (xe NW (loop _ rfl))
theorem D3(pK:fh sc aa=true)(G5:ef mB=true)(yX:ef jO=true)(hit:cS W n C sc qQ mB)(xi:cS W n C (aq sc aa) it2 jO)(he:cS W n C (aq sc aa) elt ee)(A0:mz (aq sc aa) t1 mf=true)(vg:c7 (bk (aq sc aa)) t1=true)(D0:mz (aq sc aa) t2 og=true)(vh:c7 (bk (aq sc aa)) t2=true)(hd:lD t1 t2=true):cS W n C sc (.fY aa.names.length elt t1 qQ t2 it2) (.ListComp ee [⟨mf,mB,[],0⟩,⟨og,jO,[],0⟩] aa pos):=by
 intro A e0 af L env s Φ ρ σ fr cx D;have iJ:=hY pK;refine gp (js (env:=env) (kN cx D iJ)) λ cl qk oX vf=>?_;rw[nF];refine au.of (P':=λ Q E s=>wpAny (model W.prog W.w) A (eval mB env) (λ x aL=>J0 W A aa env cl (.ListComp ee [⟨mf,mB,[],0⟩,⟨og,jO,[],0⟩] aa pos) (compPost (model W.prog W.w) A E none Q) E x aL) E s) (λ Q E h=>?_) ?_
 .rw[eval_ListComp];exact wpAny_comprehension_free rfl (λ x=>dT G5 x) qk iJ.kind (λ x hx hl=>dv iJ.nodup (by rw[←hl];exact hx)) h
 .refine au.seq (P2:=λ x Q E aL=>J0 W A aa env cl (.ListComp ee [⟨mf,mB,[],0⟩,⟨og,jO,[],0⟩] aa pos) (compPost (model W.prog W.w) A E none Q) E x aL) (hit cx D) λ u x aX cJ av k₁ oU du aW dY=>?_;have hW:=D.step aW du;induction x with
  |loc=>exact .stuck
  |d x=>
  refine au.opt λ items hx=>au.ite (λ hc=>?_) λ _=>.stuck;refine dd hc λ hc agw=>?_;haveI NU:=((cf hc)).1;haveI hp:=((cf hc)).2;intro Q E cG fg fk;refine vS (s:={ s with heap:=av,toks:=k₁}) (C:=C) (elt:=elt) (it2:=it2) (t1:=t1) (t2:=t2) cx iJ oX vf yX xi he A0 vg D0 vh hd NU hp hW dY hx agw ?_ ?_
  .intro q;refine cG ?_;show(agz (oF W.G C t1 it2 t2 elt (fr++List.replicate aa.names.length none)) items aX).bind _=_;rw[q];rfl
  .intro Dd Cc ys Φ' h' k e' Z;exact⟨_,Z.c3.choose_spec,λ cb mA=>(Z.fe hW mA).elim λ o q=>fg (.ref Dd) (.d (.list ys)) aX _ cb k (congrArg (Res.bind _) e') q.2.1 q.2.2.1 q.2.2.2⟩
end
end Internal
namespace Internal
open PySem PySem.SetTable
abbrev G6(l:List Nat):Prop:=l.Pairwise (· < ·)
structure YR(xs:Array Nat)(j p:Nat):Prop where
 le:p<=xs.size
 lo:∀i (h:i<xs.size),i<p->xs[i]<j
 hi:∀i (h:i<xs.size),p<=i->j<=xs[i]
theorem A4{xs:Array Nat}(h:G6 xs.toList)(hi:i<xs.size)(hk:k<xs.size)(hik:i<k):xs[i]<xs[k]:=by
 haveI:=List.pairwise_iff_getElem.mp h i k (by simpa using hi) (by simpa using hk) hik;simpa using this
theorem bg1(h:hi - lo<=f+1)(a:lo<=m):hi - (m+1)<=f:=by exact SU a h
theorem bg2(h:hi - lo<=f+1)(b:m<hi):m - lo<=f:=by exact SV b h
theorem bg3(h:lo<hi):lo<=(lo+hi) / 2/\(lo+hi) / 2<hi:=by exact⟨(Nat.le_div_iff_mul_le Nat.two_pos).mpr (by rw[Nat.mul_two];exact eB (Nat.le_of_lt h) lo),(Nat.div_lt_iff_lt_mul Nat.two_pos).mpr (by rw[Nat.mul_two];exact Nat.add_lt_add_right h hi)⟩
theorem tN{xs:Array Nat}(hr:G6 xs.toList)(j:Nat):∀(fuel lo hi:Nat),lo<=hi->hi<=xs.size->hi - lo<=fuel->(∀i (h:i<xs.size),i<lo->xs[i]<j)->(∀i (h:i<xs.size),hi<=i->j<=xs[i])->YR xs j (below.go xs j fuel lo hi)
 |0,lo,hi,h1,h2,h3,h4,h5=>by
  obtain rfl:lo=hi:=Nat.le_antisymm h1 (Nat.sub_eq_zero_iff_le.mp (Nat.le_zero.mp h3));exact⟨h2,h4,h5⟩
 |f+1,lo,hi,h1,h2,h3,h4,h5=>by
  show YR xs j (if lo<hi then if xs.getD ((lo+hi) / 2) j<j then below.go xs j f ((lo+hi) / 2+1) hi else below.go xs j f lo ((lo+hi) / 2) else lo);by_cases e7:lo<hi
  .rw[if_pos e7];obtain⟨a,b⟩:=bg3 e7;generalize(lo+hi) / 2=m at a b ⊢;have hm:m<xs.size:=iI b h2;rw[show xs.getD m j=xs[m] by simp[Array.getD,hm]];by_cases hq:xs[m]<j
   .rw[if_pos hq];refine tN hr j f _ _ b h2 (bg1 h3 a) (λ i h qT=>?_) h5;by_cases e:i=m
    .subst e;exact hq
    .exact Nat.lt_trans (A4 hr h hm (Nat.lt_of_le_of_ne (Nat.le_of_lt_succ qT) e)) hq
   .rw[if_neg hq];refine tN hr j f _ _ a (Nat.le_of_lt hm) (bg2 h3 b) h4 (λ i h qT=>?_);by_cases e:i=m
    .subst e;exact Nat.le_of_not_lt hq
    .exact ao (Nat.le_of_not_lt hq) (Nat.le_of_lt (A4 hr hm h (Nat.lt_of_le_of_ne qT (Ne.symm e))))
  .rw[if_neg e7];obtain rfl:lo=hi:=Nat.le_antisymm h1 (Nat.le_of_not_lt e7);exact⟨h2,h4,h5⟩
theorem yY(hr:G6 xs.toList)(j:Nat):YR xs j (below xs j):=
 tN hr j xs.size 0 xs.size (dJ _) (cy _) (Nat.sub_le _ _) (λ i h q=>absurd q (Nat.not_lt_zero i)) (λ i h q=>absurd h (Nat.not_lt_of_le q))
theorem agU{xs:Array Nat}(hr:G6 xs.toList)(hi:i<xs.size):below xs xs[i]=i:=by
 haveI b:=yY hr xs[i];refine Nat.le_antisymm (Nat.le_of_not_lt λ h3=>Nat.lt_irrefl _ (b.lo i hi h3)) (Nat.le_of_not_lt λ h1=>?_);have h2:below xs xs[i]<xs.size:=Nat.lt_trans h1 hi;exact Nat.lt_irrefl _ (iI (A4 hr h2 hi h1) (b.hi _ h2 (cy _)))
theorem vT{t:SetTable}(hr:G6 t.place.toList)(hi:i<t.place.size):t.slot t.place[i]=.live i:=by
 unfold slot;simp only[agU hr hi];rw[if_pos (by simp[hi])]
theorem A5{t:SetTable}(hr:G6 t.place.toList)(hd:t.dummies=#[])(hj:j∉t.place):t.slot j=.empty:=by
 unfold slot;simp only;rw[if_neg,if_neg]
 .rw[hd];simp[has]
 .intro h;simp only[beq_iff_eq] at h;exact hj (Array.mem_of_getElem? h)
noncomputable def PX(mask:Nat)(p:Probe):Probe:=if p.more > 0 then{ p with j:=p.j+1,more:=p.more - 1} else
 { p with j:=(leap mask p.i p.perturb).1,more:=runEnd mask (leap mask p.i p.perturb).1 - (leap mask p.i p.perturb).1,i:=(leap mask p.i p.perturb).1,perturb:=(leap mask p.i p.perturb).2}
theorem tO(t:SetTable)(p:Probe):t.advance p=PX t.mask p:=by unfold advance PX;rfl
noncomputable def aha(mask i D4:Nat):Probe:={ j:=i,more:=runEnd mask i - i,i,perturb:=D4,dummy:=none}
def agG(mM:Nat)(h:Int):Nat->Probe
 |0=>aha mM (bits h % (mM+1)) (bits h)
 |k+1=>PX mM (agG mM h k)
theorem G7:agG mM h 0=(aha mM (bits h % (mM+1)) (bits h)):=rfl
theorem G8:agG mM h (k+1)=(PX mM (agG mM h k)):=rfl
theorem PY(mask i:Nat):runEnd mask i - i<=9:=by unfold runEnd;split<;>(first|exact bV (Nat.add_sub_cancel_left ..)|exact ao (bV (Nat.sub_self _)) (dJ _))
theorem qm{mask:Nat}(e:agG mask h k=aha mask i D4):∀m,m<=runEnd mask i - i->agG mask h (k+m)={ j:=i+m,more:=runEnd mask i - i - m,i,perturb:=D4,dummy:=none}
 |0,_=>by simp only[Nat.add_zero,e];rfl
 |m+1,hm=>by
  (rewrite[←Nat.add_assoc];(first|rewrite[G7]|rewrite[G8]);rw[qm e m (by exact F2 hm),PX,if_pos (by show runEnd mask i - i - m > 0;exact Tr hm)])
  simp only[Probe.mk.injEq,and_true,true_and];exact⟨by exact Tu,by exact Tv⟩
theorem vU{mask:Nat}(e:agG mask h k=aha mask i D4):agG mask h (k+(runEnd mask i - i)+1)=aha mask (leap mask i D4).1 (leap mask i D4).2:=by
 ((first|rewrite[G7]|rewrite[G8]);rw[qm e _ (cy _),PX,if_neg (by show¬(runEnd mask i - i - (runEnd mask i - i) > 0);exact Nat.not_lt.mpr (bV (Nat.sub_self _)))])
 rfl
noncomputable def dM(mM:Nat)(h:Int):Nat->Nat×Nat
 |0=>(bits h % (mM+1),bits h)
 |r+1=>leap mM (dM mM h r).1 (dM mM h r).2
theorem NX:dM mM h 0=((bits h % (mM+1),bits h)):=rfl
theorem NY:dM mM h (r+1)=(leap mM (dM mM h r).1 (dM mM h r).2):=rfl
theorem tP(mask:Nat)(h:Int):∀r,∃k,k<=10 * r/\agG mask h k=aha mask (dM mask h r).1 (dM mask h r).2
 |0=>⟨0,by exact dk,rfl⟩
 |r+1=>by
  refine aI (tP mask h r) λ k hk e=>?_;haveI:=PY mask (dM mask h r).1;exact⟨_,by exact cv (Nat.add_le_add hk this),vU e⟩
theorem tQ(mask:Nat)(h:Int):∀r,(dM mask h r).2=bits h / 32 ^ r
 |0=>by simp[NX,NY]
 |r+1=>by((first|rewrite[NX]|rewrite[NY]);rw[leap]);simp only;simp only[tQ mask h r,Nat.div_div_eq_div_mul,Nat.pow_succ]
theorem K4(h:Int):bits h<2 ^ 64:=by
 unfold bits;have h2:=Int.emod_lt_of_pos h (show(0:Int)<2 ^ 64 by decide);have h3:((h % 2 ^ 64).toNat:Int)=h % 2 ^ 64:=Int.toNat_of_nonneg (Int.emod_nonneg h (show(2 ^ 64:Int)≠0 by decide));haveI:(((2 ^ 64:Nat):Int))=(2 ^ 64:Int):=by decide
 exact Int.ofNat_lt.mp (by rw[h3,this];exact h2)
theorem A6(mask:Nat)(h:Int)(hr:13<=r):(dM mask h r).2=0:=by
 rw[tQ];refine Nat.div_eq_of_lt (iI (K4 h) ?_)
 calc 2 ^ 64<=32 ^ 13:=by decide
  _<=32 ^ r:=Nat.pow_le_pow_right (by decide) hr
noncomputable def NZ(mM:Nat):Nat->Nat->Nat
 |0,i=>i
 |m+1,i=>NZ mM m ((i * 5+1) % (mM+1))
theorem U2:NZ mM 0 i=(i):=rfl
theorem U3:NZ mM (m+1) i=(NZ mM m ((i * 5+1) % (mM+1))):=rfl
theorem rf(mask:Nat)(h:Int):∀m r,13<=r->(dM mask h (r+m)).1=NZ mask m (dM mask h r).1
 |0,r,_=>rfl
 |m+1,r,hr=>by
  haveI:=rf mask h m (r+1) (by exact eR hr);simp only[show r+(m+1)=r+1+m by exact M4,this,U2,U3];congr 1;show(leap mask _ _).1=_;rw[A6 mask h hr];rfl
theorem mV(mask:Nat)(h:Int):∀r,(dM mask h r).1<mask+1
 |0=>Nat.mod_lt _ (by exact Nat.succ_pos _)
 |r+1=>Nat.mod_lt _ (by exact Nat.succ_pos _)
def kl(mask:Nat):Prop:=mask=7\/mask=31
theorem CE{mask:Nat}(hm:kl mask):∀i,i<mask+1->∀j,j<mask+1->∃m,m<mask+1/\NZ mask m i=j:=by
 haveI h7:(List.range 8).all (λ i=>(List.range 8).all λ j=>(List.range 8).any λ m=>NZ 7 m i==j)=true:=by decide +kernel
 haveI h31:(List.range 32).all (λ i=>(List.range 32).all λ j=>(List.range 32).any λ m=>NZ 31 m i==j)=true:=by decide +kernel
 intro i hi j hj;rcases hm with rfl|rfl
 .haveI h2:=fX.mp (fX.mp h7 i (by simpa using hi)) j (by simpa using hj);rw[List.any_eq_true] at h2;refine aI h2 λ m hm e=>?_;exact⟨m,by simpa using hm,by simpa using e⟩
 .haveI h2:=fX.mp (fX.mp h31 i (by simpa using hi)) j (by simpa using hj);rw[List.any_eq_true] at h2;refine aI h2 λ m hm e=>?_;exact⟨m,by simpa using hm,by simpa using e⟩
theorem G9{mask:Nat}(hm:kl mask)(h:Int)(hj:j<mask+1):∃k,k<10 * turns mask/\(agG mask h k).j=j:=by
 refine aI (CE hm _ (mV mask h 13) j hj) λ m e7 e=>?_;refine aI (tP mask h (13+m)) λ k hk er=>?_;refine⟨k,by unfold turns;exact eQ hk ((Nat.mul_lt_mul_left (Nat.succ_pos 9)).mpr (iI (Nat.add_lt_add_left e7 13) (ao (bV (Nat.add_comm 13 (mask+1))) (Nat.le_succ _)))),?_⟩;rw[er];show(dM mask h (13+m)).1=j;simp only[rf mask h m 13 (cy _),e]
def ahp(mask:Nat)(occ:Nat->Prop)(h:Int)(j:Nat):Prop:=∃k,(agG mask h k).j=j/\∀k',k'<k->occ (agG mask h k').j
theorem ahp.mono{mask:Nat}{o o':Nat->Prop}(p:ahp mask o h j)(hh:∀i,o i->o' i):ahp mask o' h j:=
 let⟨k,e,q⟩:=p;⟨k,e,λ k' hk=>hh _ (q k' hk)⟩
structure TG(t:SetTable)(hs:List Int):Prop where
 mask:kl t.mask
 RZ:t.dummies=#[]
 J1:G6 t.place.toList
 le:∀j∈t.place,j<t.mask+1
 size:t.place.size=hs.length
 path:∀i (h:i<t.place.size),ahp t.mask (·∈t.place) (hs.getD i 0) t.place[i]
theorem ahr{P:Nat->Prop}:∀n,P n->∃m,m<=n/\P m/\∀k,k<m->¬P k:=by
 intro n;induction n using Nat.strongRecOn with
 |_ n ih=>
  intro hn;by_cases h:∃k,k<n/\P k
  .refine aI h λ k hk hp=>?_;refine gp (ih k hk hp) λ m h1 h2 h3=>?_;exact⟨m,by exact Nat.le_of_lt (eQ h1 hk),h2,h3⟩
  .exact⟨n,cy _,hn,λ k hk hp=>h ⟨k,hk,hp⟩⟩
theorem rg:∀(n:Nat) (l:List Nat),(∀j,j<n->j∈l)->n<=l.length
 |0,l,_=>dJ _
 |n+1,l,h=>by
  haveI hm:=h n (by exact mF);haveI:=rg n (l.erase n) λ j hj=>(List.mem_erase_of_ne (by exact dI hj)).mpr (h j (by exact Nat.lt_succ_of_lt hj));rw[List.length_erase_of_mem hm] at this;haveI:=List.length_pos_of_mem hm;exact ao (cv ‹n<=_›) (bV (Nat.sub_add_cancel this))
theorem yZ(l:List Nat)(n:Nat)(h3:l.length<n):∃j,j<n/\j∉l:=by
 by_cases h:∃j,j<n/\j∉l
 .exact h
 .exfalso;haveI:=rg n l λ j hj=>Classical.byContradiction λ hq=>h ⟨j,hj,hq⟩;exact B8 h3 this
theorem TG.first(T:TG t hs)(hr:hs.length<=t.mask)(h:Int):∃K,K<10 * turns t.mask/\(agG t.mask h K).j∉t.place/\∀k,k<K->(agG t.mask h k).j∈t.place:=by
 refine aI (yZ t.place.toList (t.mask+1) (by have:=T.size;simp;exact Nat.lt_succ_of_le (ao (bV this) hr))) λ j h1 h2=>?_;refine aI (G9 T.mask h h1) λ k h3 h4=>?_;refine gp (ahr (P:=λ k=>(agG t.mask h k).j∉t.place) k (by rw[h4];simpa using h2)) λ K h5 h6 h7=>?_;exact⟨K,by exact M0 h5 h3,h6,λ k hk=>Classical.byContradiction (h7 k hk)⟩
theorem tR(mask:Nat)(h:Int):∀k,(agG mask h k).dummy=none
 |0=>rfl
 |k+1=>by
  simp only[G7,G8,PX];split<;>exact tR mask h k
section
variable {t:SetTable}{ha:Nat->Int}{h:Int}{f i:Nat}{p:Probe}
theorem YS(hs:t.slot p.j=.empty):probe.go t ha h (f+1) p=some (.empty p.j p.dummy):=by
 show(match t.slot p.j with|.empty=>_ | .dummy=>_ | .live i=>_)=_;rw[hs]
theorem YT(hs:t.slot p.j=.live i):probe.go t ha h (f+1) p=if ha i==h then some (.candidate p.j i (t.advance p)) else probe.go t ha h f (t.advance p):=by
 show(match t.slot p.j with|.empty=>_ | .dummy=>_ | .live i=>_)=_;rw[hs]
end
theorem TG.go(T:TG t hs)(hashAt:Nat->Int)(h:Int)(hK:(agG t.mask h K).j∉t.place)(hl:∀k,k<K->(agG t.mask h k).j∈t.place):∀(fuel k:Nat),k<=K->K - k<fuel ->
  (∃k' i,k<=k'/\k'<K/\∃hi:i<t.place.size,t.place[i]=(agG t.mask h k').j/\hashAt i=h/\probe.go t hashAt h fuel (agG t.mask h k)=some (.candidate (agG t.mask h k').j i (agG t.mask h (k'+1))) /\
    ∀fS,k<=fS->fS<k'->∀i (hi:i<t.place.size),t.place[i]=(agG t.mask h fS).j->hashAt i≠h) \/
  (probe.go t hashAt h fuel (agG t.mask h k)=some (.empty (agG t.mask h K).j none)/\∀fS,k<=fS->fS<K->∀i (hi:i<t.place.size),t.place[i]=(agG t.mask h fS).j->hashAt i≠h)
 |0,k,_,h2=>by exact rR h2
 |f+1,k,h1,h2=>by
  by_cases hk:k=K
  .subst hk;right;rw[YS (A5 T.J1 T.RZ hK)];refine⟨by simp[tR],λ fS a b=>by exact B8 b a⟩
  .obtain⟨i,hi,e⟩:=Array.getElem_of_mem (hl k (by exact FX h1 hk));haveI hs:=vT T.J1 hi;rw[e] at hs;rw[YT hs];by_cases hh:hashAt i=h
   .left;refine⟨k,i,cy _,by exact FX h1 hk,hi,e,hh,?_,λ fS a b=>by exact B8 b a⟩;rw[if_pos (by simpa using hh),tO];rfl
   .rw[if_neg (by simpa using hh),tO];have Ha:∀i' (qT:i'<t.place.size),t.place[i']=(agG t.mask h k).j->hashAt i'≠h:=by
     intro i' qT e';haveI:i'=i:=by
      haveI a1:=agU T.J1 qT;haveI a2:=agU T.J1 hi;rw[e'] at a1;rw[e] at a2;exact FZ a1 a2
     rw[this];exact hh
    rcases TG.go T hashAt h hK hl f (k+1) (by exact SX h1 hk) (by exact SY h1 hk h2) with⟨k',i',a1,a2,a3,a4,a5,a6,a7⟩|⟨a1,a2⟩
    .left;refine⟨k',i',by exact F2 a1,a2,a3,a4,a5,a6,λ fS b1 b2=>?_⟩;by_cases e':fS=k
     .subst e';exact Ha
     .exact a7 fS (by exact FY b1 e') b2
    .right;refine⟨a1,λ fS b1 b2=>?_⟩;by_cases e':fS=k
     .subst e';exact Ha
     .exact a2 fS (by exact FY b1 e') b2
section
variable {α:Type}{l:List Nat}{hs:List Int}
theorem TG.on(T:TG t hs)(hK:(agG t.mask h K).j∉t.place)(hi:i<t.place.size)(e:hs.getD i 0=h):∃k,k<K/\t.place[i]=(agG t.mask h k).j:=by
 obtain⟨k,h1,h2⟩:=T.path i hi;rw[e] at h1 h2;refine⟨k,?_,h1.symm⟩;by_cases hk:k<K
 .exact hk
 .exfalso;by_cases he:k=K
  .subst he;rw[h1] at hK;exact hK (Array.getElem_mem hi)
  .exact hK (h2 K (by exact Nat.lt_of_le_of_ne (Nat.not_lt.mp hk) (Ne.symm he)))
theorem cY(xs:Array α)(p:Nat)(x:α):(insertAt xs p x).toList=xs.toList.take p++x::xs.toList.drop p:=by
 unfold insertAt;simp[List.take_of_length_le]
theorem A7(h:G6 l)(h1:∀a∈l.take p,a<j)(h2:∀a∈l.drop p,j<a):G6 (l.take p++j::l.drop p):=by
 rw[←List.take_append_drop p l] at h;refine tc (List.pairwise_append.mp h) λ a b c=>?_;refine List.pairwise_append.mpr ⟨a,List.pairwise_cons.mpr ⟨h2,b⟩,λ x hx y hy=>?_⟩;rcases e8.mp hy with rfl|hy
 .exact h1 x hx
 .exact c x hx y hy
theorem xj(h:a∈l.take p):∃i,i<p/\l[i]?=some a:=by
 obtain⟨i,hi,e⟩:=List.getElem_of_mem h;rw[List.getElem_take] at e;haveI h1:i<p:=by have:=List.length_take_le p l;exact MZ hi this
 exact⟨i,h1,by rw[←e];exact gj _⟩
theorem xk(h:a∈l.drop p):∃i,p<=i/\l[i]?=some a:=by
 obtain⟨i,hi,e⟩:=List.getElem_of_mem h;rw[List.getElem_drop] at e;exact⟨p+i,by exact kF,by rw[←e];exact gj _⟩
theorem ag1(l:List α)(p:Nat)(x d:α)(hp:p<=l.length)(i:Nat):(l.take p++x::l.drop p).getD i d=if i<p then l.getD i d else if i=p then x else l.getD (i - 1) d:=by
 simp only[jG];by_cases h1:i<p
 .rw[if_pos h1,i0 (by simp;exact Ti h1 hp),List.getElem?_take_of_lt h1]
 .rw[if_neg h1,ot (by simp;exact O4 h1)];have hl:(l.take p).length=p:=by simp;exact Tf hp
  refine bO (hl ..) ?_;by_cases h2:i=p
  .subst h2;simp
  .refine bO (if_neg h2 ..) ?_;obtain⟨m,hm⟩:∃m,i - p=m+1:=⟨i - p - 1,by exact Nd h1 h2⟩;simp only[hm,List.getElem?_cons_succ,List.getElem?_drop,show p+m=i - 1 by exact To hm]
theorem TG.put{t:SetTable}(T:TG t hs)(hK:(agG t.mask h K).j∉t.place)(hl:∀k,k<K->(agG t.mask h k).j∈t.place)(e7:(agG t.mask h K).j<t.mask+1):(t.put (agG t.mask h K).j).2<=hs.length/\TG (t.put (agG t.mask h K).j).1 (hs.take (t.put (agG t.mask h K).j).2++h::hs.drop (t.put (agG t.mask h K).j).2) /\
   (t.put (agG t.mask h K).j).1.mask=t.mask/\(t.put (agG t.mask h K).j).1.moves=t.moves/\(t.put (agG t.mask h K).j).1.led=t.led/\(t.put (agG t.mask h K).j).1.finger=t.finger/\(t.put (agG t.mask h K).j).1.plain=t.plain:=by
 obtain⟨j,hj⟩:∃j,j=(agG t.mask h K).j:=⟨_,rfl⟩;rw[←hj] at hK e7 ⊢;haveI hb:=yY T.J1 j;obtain⟨p,hp⟩:∃p,p=below t.place j:=⟨_,rfl⟩;have e:t.put j=({ t with place:=insertAt t.place p j,dummies:=#[]},p):=by
  unfold SetTable.put;rw[hp];simp only[T.RZ];rfl
 rw[e];rw[←hp] at hb;have A8:p<=hs.length:=by have:=hb.le;rw[T.size] at this;exact this
 refine⟨A8,⟨T.mask,rfl,?_,?_,?_,?_⟩,rfl,rfl,rfl,rfl,rfl⟩
 .show G6 (insertAt t.place p j).toList;rw[cY];refine A7 T.J1 (λ a ha=>?_) (λ a ha=>?_)
  .refine aI (xj ha) λ i hi e=>?_;refine bK (gi.mp e) λ h1 h2=>?_;have:=hb.lo i (by simpa using h1) hi
   simp at h2;exact h2▸this
  .refine aI (xk ha) λ i hi e=>?_;refine bK (gi.mp e) λ h1 h2=>?_;have h3:=hb.hi i (by simpa using h1) hi;simp at h2;have:a≠j:=by
    rintro rfl;exact hK (by rw[←h2];exact Array.getElem_mem _)
   exact Nat.lt_of_le_of_ne (h2▸h3) (Ne.symm this)
 .intro a ha;haveI tD:a∈(insertAt t.place p j).toList:=by simpa using ha
  rw[cY] at tD;rcases bX.mp tD with q|q
  .exact T.le a (by simpa using List.mem_of_mem_take q)
  .rcases e8.mp q with rfl|q
   .exact e7
   .exact T.le a (by simpa using List.mem_of_mem_drop q)
 .show(insertAt t.place p j).size=_;rw[←Array.length_toList,cY];haveI:=T.size;haveI:t.place.toList.length=hs.length:=by simpa using this
  simp;rw[‹t.place.size=hs.length›]
 .have vj:∀a,a∈t.place->a∈insertAt t.place p j:=λ a ha=>by
   haveI:a∈(insertAt t.place p j).toList:=by
    rw[cY];haveI h1:a∈t.place.toList:=by simpa using ha
    rw[←List.take_append_drop p t.place.toList] at h1;rcases bX.mp h1 with q|q
    .exact List.mem_append_left _ q
    .exact List.mem_append_right _ (d8 _ q)
   simpa using this
  intro i hi;show ahp t.mask (·∈insertAt t.place p j) ((hs.take p++h::hs.drop p).getD i 0) (insertAt t.place p j)[i];have qS:(insertAt t.place p j).size=hs.length+1:=by
   rw[←Array.length_toList,cY];haveI:=T.size;haveI:t.place.toList.length=hs.length:=by simpa using this
   simp;rw[‹t.place.size=hs.length›,Nat.min_eq_left A8,←Nat.add_assoc,Nat.add_sub_of_le A8]
  have qT:i<hs.length+1:=by rw[←qS];exact hi
  haveI agw:t.place.toList.length=hs.length:=by have:=T.size;simpa using this
  haveI eg:(insertAt t.place p j)[i]'hi=(t.place.toList.take p++j::t.place.toList.drop p).getD i 0:=by
   rw[←cY,jG,gj (by simpa using hi)];simp
  rw[eg,ag1 hs _ _ _ A8,ag1 t.place.toList _ _ _ (by exact ao A8 (bV agw.symm))];by_cases h1:i<p
  .rw[if_pos h1,if_pos h1];have h2:i<t.place.size:=by rw[T.size];exact MZ h1 A8
   haveI:=(T.path i h2).mono vj;haveI e3:t.place.toList.getD i 0=t.place[i]:=by rw[jG,gj (by simpa using h2)];simp
   rw[e3];exact this
  .rw[if_neg h1,if_neg h1];by_cases h2:i=p
   .rw[if_pos h2,if_pos h2];exact⟨K,hj.symm,λ k' l7=>vj _ (hl k' l7)⟩
   .rw[if_neg h2,if_neg h2];have h3:i - 1<t.place.size:=by rw[T.size];exact iI (Nat.sub_lt (eQ (dJ p) (Nat.lt_of_le_of_ne (Nat.not_lt.mp h1) (Ne.symm h2))) Nat.one_pos) (Nat.le_of_lt_succ qT)
    haveI:=(T.path (i - 1) h3).mono vj;haveI e3:t.place.toList.getD (i - 1) 0=t.place[i - 1]:=by rw[jG,gj (by simpa using h3)];simp
    rw[e3];exact this
def ku(mM:Nat)(h:Int):Nat->Nat
 |0=>0
 |r+1=>ku mM h r+(runEnd mM (dM mM h r).1 - (dM mM h r).1)+1
theorem tS:ku mM h 0=(0):=rfl
theorem tT:ku mM h (r+1)=(ku mM h r+(runEnd mM (dM mM h r).1 - (dM mM h r).1)+1):=rfl
theorem tU(mask:Nat)(h:Int):∀r,agG mask h (ku mask h r)=aha mask (dM mask h r).1 (dM mask h r).2
 |0=>rfl
 |r+1=>vU (tU mask h r)
theorem A9(mask:Nat)(h:Int)(r:Nat):ku mask h r<ku mask h (r+1):=by(first|rw[tS]|rw[tT]);exact Nat.lt_succ_of_le (cU ..)
theorem y0(mask:Nat)(h:Int):∀m,ku mask h r<=ku mask h (r+m)
 |0=>cy _
 |m+1=>ao (y0 mask h m) (Nat.le_of_lt (A9 mask h (r+m)))
def Own(agu:Array (Option Nat))(j:Nat):Prop:=∃m,agu[j]?=some (some m)
end
section
variable {i mask p:Nat}{agu:Array (Option Nat)}
theorem getD_none(hj:j<agu.size):(agu.getD j (some 0)).isNone=true↔¬Own agu j:=by
 unfold Own;refine cq (agu[j]) (λ e=>?_) (λ m e=>?_)
 .simp[hj,e]
 .simp[hj,e]
theorem tV{m:Nat}(hi:i<mask+1)(hm:m<=runEnd mask i - i):i+m<mask+1:=by
 unfold runEnd at hm;split at hm<;>(first|exact Nat.lt_succ_of_le (ao (eB (ao hm (bV (Nat.add_sub_cancel_left ..))) i) ‹_›)|exact eQ (eB (ao hm (bV (Nat.sub_self i))) i) hi)
theorem Ba:∀(n m:Nat),m<n->f m=true->(∀k,k<m->f k=false)->(List.range n).find? f=some m:=by
 intro n m hm h1 h2;rw[List.find?_eq_some_iff_append];refine⟨h1,List.range m,(List.range n).drop (m+1),?_,λ a ha=>by simpa using h2 a (by simpa using ha)⟩;apply List.ext_getElem?;intro k;by_cases hk:k<m
 .rw[i0 (by simpa using hk),List.getElem?_range (by exact SQ hk hm),List.getElem?_range hk]
 .rw[ot (by simpa using hk)];simp only[List.length_range];by_cases he:k=m
  .subst he;simp[hm]
  .obtain⟨q,hq⟩:∃q,k - m=q+1:=⟨k - m - 1,by exact Nd hk he⟩;simp only[hq,List.getElem?_cons_succ,List.getElem?_drop,show m+1+q=k by exact Tq hq]
theorem ahi(h:∀k,k<n->f k=false):(List.range n).find? f=none:=by
 rw[List.find?_eq_none];intro a ha;simpa using h a (by simpa using ha)
theorem N0(mask i:Nat):i<=runEnd mask i:=by
 unfold runEnd;split
 .exact cU _ _
 .exact cy _
theorem U4{k:Nat}(h:k<runEnd mask i - i+1):k<runEnd mask i+1 - i:=Nat.lt_of_lt_of_eq h (Nat.sub_add_comm (N0 ..)).symm
theorem YU{f k:Nat}(h:(List.range (runEnd mask i+1 - i)).find? (λ k=>(agu.getD (i+k) (some 0)).isNone)=some k):layClean.free mask agu (f+1) i p=some (i+k):=by
 show(match(List.range (runEnd mask i+1 - i)).find? (λ k=>(agu.getD (i+k) (some 0)).isNone) with|some k=>_|none=>_)=_;rw[h]
theorem YV{f:Nat}(h:(List.range (runEnd mask i+1 - i)).find? (λ k=>(agu.getD (i+k) (some 0)).isNone)=none):layClean.free mask agu (f+1) i p=layClean.free mask agu f (leap mask i p).1 (leap mask i p).2:=by
 show(match(List.range (runEnd mask i+1 - i)).find? (λ k=>(agu.getD (i+k) (some 0)).isNone) with|some k=>_|none=>_)=_;rw[h]
end
theorem CG{mask:Nat}(hs:agu.size=mask+1)(h:Int)(hK:¬Own agu (agG mask h K).j)(hl:∀k,k<K->Own agu (agG mask h k).j):∀(fuel r:Nat),ku mask h r<=K->K<ku mask h (r+fuel) ->
  layClean.free mask agu fuel (dM mask h r).1 (dM mask h r).2=some (agG mask h K).j
 |0,r,h1,h2=>by simp at h2;exact B8 h2 h1
 |f+1,r,h1,h2=>by
  haveI e7:=mV mask h r;have Fu:=λ m (hm:m<=runEnd mask (dM mask h r).1 - (dM mask h r).1)=>qm (tU mask h r) m hm;by_cases hq:K<ku mask h (r+1)
  ·(first|rw[tS] at hq|rw[tT] at hq)
   have e:=Fu (K - ku mask h r) (by exact s9 hq);rw[show ku mask h r+(K - ku mask h r)=K by exact F3 h1] at e;rw[YU (Ba _ (K - ku mask h r) (U4 (Nat.sub_lt_left_of_lt_add h1 hq)) ?_ ?_)]
   .rw[e]
   .rw[getD_none (by rw[hs];exact tV e7 (by exact s9 hq))];rw[e] at hK;exact hK
   .intro k hk;have e2:=Fu k (by exact Ni hk hq);have h3:=hl (ku mask h r+k) (by exact Tw hk);rw[e2] at h3;refine mH ((agu.getD ((dM mask h r).1+k) (some 0)).isNone) (λ hb=>?_) (λ hb=>?_)
    .exact absurd h3 ((getD_none (by rw[hs];exact tV e7 (by exact Ni hk hq))).mp hb)
    .rfl
  .have R0:ku mask h (r+1)<=K:=by exact jI hq
   rw[YV (ahi ?_)]
   .exact CG hs h hK hl f (r+1) R0 (by rw[show r+1+f=r+(f+1) by exact M3];exact h2)
   .intro k hk;have l7:k<=runEnd mask (dM mask h r).1 - (dM mask h r).1:=Nat.le_of_lt_succ (Nat.lt_of_lt_of_eq hk (Nat.sub_add_comm (N0 ..)));have e2:=Fu k l7
    (first|rw[tS] at R0|rw[tT] at R0)
    haveI h3:=hl (ku mask h r+k) (by exact iI (Nat.lt_succ_of_le (eB l7 _)) R0);rw[e2] at h3;refine mH ((agu.getD ((dM mask h r).1+k) (some 0)).isNone) (λ hb=>?_) (λ hb=>?_)
    .exact absurd h3 ((getD_none (by rw[hs];exact tV e7 l7)).mp hb)
    .rfl
structure OW(mask:Nat)(agu:Array (Option Nat))(hs:List Int)(k:Nat):Prop where
 size:agu.size=mask+1
 all:∀m:Nat,m<k->∃j:Nat,agu[j]?=some (some m)/\ahp mask (Own agu) (hs.getD m 0) j
 lt:∀(j m:Nat),agu[j]?=some (some m)->m<k
 inj:∀(j j' m:Nat),agu[j]?=some (some m)->agu[j']?=some (some m)->j=j'
section
variable {mask:Nat}{agu:Array (Option Nat)}
theorem OW.nil(mask:Nat)(hs:List Int):OW mask (Array.replicate (mask+1) none) hs 0:=by
 refine⟨by simp,λ m h=>by exact rR h,λ j m h=>?_,λ j j' m h=>?_⟩
 .rw[Array.getElem?_replicate] at h;split at h<;>cases h
 .rw[Array.getElem?_replicate] at h;split at h<;>cases h
theorem OW.first(hm:kl mask)(O:OW mask agu hs k)(hk:k<=mask)(h:Int):∃K,K<ku mask h (turns mask)/\¬Own agu (agG mask h K).j/\(∀k,k<K->Own agu (agG mask h k).j)/\(agG mask h K).j<mask+1:=by
 obtain⟨j,h1,h2⟩:∃j,j<mask+1/\¬Own agu j:=by
  by_cases hq:∃j,j<mask+1/\¬Own agu j
  .exact hq
  .exfalso
   -- positions of the first k
   haveI:∀k,(∀j,j<mask+1->∃m,agu[j]?=some (some m)/\m<k)->mask+1<=k:=by
    intro k Xq;haveI q8:∀n,n<=mask+1->∃l:List Nat,l.length=n/\l.Nodup/\∀m∈l,m<k/\∃j,j<n/\agu[j]?=some (some m):=by
     intro n;induction n with
     |zero=>intro _;exact⟨[],rfl,List.nodup_nil,λ m hm=>nomatch hm⟩
     |succ n ih=>
      intro hn;refine gp (ih (by exact F2 hn)) λ l e1 e2 e3=>?_;refine aI (Xq n (by exact Ng hn)) λ m D5 K5=>?_;refine⟨m::l,by simp[e1],List.nodup_cons.mpr ⟨λ vj=>?_,e2⟩,λ m' sA=>?_⟩
      .refine F6 (e3 m vj) λ _ j hj YW=>?_;haveI:=O.inj j n m YW D5;exact dI hj this
      .rcases e8.mp sA with rfl|q
       .exact⟨K5,n,by exact mF,D5⟩
       .refine F6 (e3 m' q) λ a j hj YW=>?_;exact⟨a,j,by exact Nat.lt_succ_of_lt hj,YW⟩
    refine gp (q8 (mask+1) (cy _)) λ l e1 e2 e3=>?_;haveI hle:∀(k:Nat) (l:List Nat),l.Nodup->(∀m∈l,m<k)->l.length<=k:=by
     intro k;induction k with
     |zero=>intro l _ h;induction l with|nil=>simp|cons a l=>have:=h a (by simp);exact rR this
     |succ k ih=>
      intro l h1 h2;have:=ih (l.erase k) (h1.erase k) λ m hm=>by
       have:=h2 m (List.mem_of_mem_erase hm)
       have eZ:m≠k:=by
        rintro rfl;exact(List.Nodup.not_mem_erase h1) hm
       exact B3 this eZ
      by_cases U5:k∈l
      .rw[List.length_erase_of_mem U5] at this;exact Nat.le_add_of_sub_le this
      .rw[List.erase_of_not_mem U5] at this;exact eR this
    haveI:=hle k l e2 λ m hm=>(e3 m hm).1;exact e1▸this
   haveI:=this k λ j hj=>by
    obtain⟨m,e⟩:=(λ j hj=>Classical.byContradiction λ hh=>hq ⟨j,hj,hh⟩) j hj;exact⟨m,e,O.lt j m e⟩
   exact TY this hk
 refine aI (CE hm _ (mV mask h 13) j h1) λ m e7 e=>?_;haveI e2:(agG mask h (ku mask h (13+m))).j=j:=by
  rw[tU];show(dM mask h (13+m)).1=j;simp only[rf mask h m 13 (cy _),e]
 refine gp (ahr (P:=λ k=>¬Own agu (agG mask h k).j) (ku mask h (13+m)) (by rw[e2];exact h2)) λ K h5 h6 h7=>?_;haveI hK:K<ku mask h (turns mask):=by
  haveI a1:=A9 mask h (13+m);haveI a2:=y0 mask h (r:=13+m+1) (turns mask - (13+m+1));rw[show 13+m+1+(turns mask - (13+m+1))=turns mask by unfold turns;exact Nat.add_sub_of_le (ao (eB e7 13) (ao (bV (Nat.add_comm 13 (mask+1))) (Nat.le_succ _)))] at a2;exact eQ h5 (iI a1 a2)
 refine⟨K,hK,h6,λ k hk=>Classical.byContradiction (h7 k hk),?_⟩
 -- in abI run K lies
 obtain⟨r,Xr,K6⟩:∃r,ku mask h r<=K/\K<ku mask h (r+1):=by
  haveI:∀n,K<ku mask h n->∃r,ku mask h r<=K/\K<ku mask h (r+1):=by
   intro n;induction n with
   |zero=>intro hn;simp[tS,tT] at hn
   |succ n ih=>
    intro hn;by_cases hq:K<ku mask h n
    .exact ih hq
    .exact⟨n,by exact jI hq,hn⟩
  exact this _ hK
 (first|rw[tS] at K6|rw[tT] at K6)
 haveI:=qm (tU mask h r) (K - ku mask h r) (by exact s9 K6);rw[show ku mask h r+(K - ku mask h r)=K by exact F3 Xr] at this;rw[this];exact tV (mV mask h r) (by exact s9 K6)
theorem OW.step(hm:kl mask)(O:OW mask agu hs k)(hk:k<=mask):∃j,layClean.free mask agu (turns mask) (bits (hs.getD k 0) % (mask+1)) (bits (hs.getD k 0))=some j/\OW mask (agu.setIfInBounds j (some k)) hs (k+1):=by
 refine pQ (O.first hm hk (hs.getD k 0)) λ K h1 h2 h3 h4=>?_;refine⟨_,CG O.size _ h2 h3 (turns mask) 0 (dJ _) (by simpa using h1),?_⟩;obtain⟨j,hj⟩:∃j,j=(agG mask (hs.getD k 0) K).j:=⟨_,rfl⟩;rw[←hj] at h2 h4 ⊢;haveI hjs:j<agu.size:=by rw[O.size];exact h4
 have get:∀i,(agu.setIfInBounds j (some k))[i]?=if j=i then some (some k) else agu[i]?:=λ i=>by
  rw[Array.getElem?_setIfInBounds];by_cases e:j=i
  .subst e;simp[hjs]
  .simp[e]
 have own:∀i,Own agu i->Own (agu.setIfInBounds j (some k)) i:=λ i ⟨m,e⟩=>by
  by_cases q:j=i
  .exact⟨k,by rw[get,if_pos q]⟩
  .exact⟨m,by rw[get,if_neg q];exact e⟩
 refine⟨by simp[O.size],λ m RP=>?_,λ i m e=>?_,λ i i' m e e'=>?_⟩
 .by_cases q:m=k
  .subst q;exact⟨j,by rw[get,if_pos rfl],K,hj.symm,λ k' l7=>own _ (h3 k' l7)⟩
  .refine aI (O.all m (by exact B3 RP q)) λ i e p=>?_;haveI eZ:j≠i:=by rintro rfl;exact h2 ⟨m,e⟩
   exact⟨i,by rw[get,if_neg eZ];exact e,p.mono own⟩
 .rw[get] at e;split at e
  .cases e;exact mF
  .haveI:=O.lt i m e;exact Nat.lt_succ_of_lt this
 .rw[get] at e e';split at e<;>split at e'
  .with_reducible exact FZ ‹_› ‹_›
  .cases e;have:=O.lt i' k e';exact absurd this (Nat.lt_irrefl _)
  .cases e';have:=O.lt i k e;exact absurd this (Nat.lt_irrefl _)
  .exact O.inj i i' m e e'
end
theorem za{mask:Nat}(hm:kl mask)(hs:List Int):∀(agv done:List Int) (agu:Array (Option Nat)),hs=done++agv->hs.length<=mask->OW mask agu hs done.length ->
  ∃Hb,agv.foldl (init:=some (agu,done.length)) (λ acc h=>do
   let(agu,k) ←acc
   let j ←layClean.free mask agu (turns mask) (bits h % (mask+1)) (bits h)
   pure (agu.setIfInBounds j (some k),k+1))=some (Hb,hs.length)/\OW mask Hb hs hs.length
 |[],done,agu,e,hl,O=>by
  rw[List.append_nil] at e;subst e;exact⟨agu,rfl,O⟩
 |h::agv,done,agu,e,hl,O=>by
  haveI hg:hs.getD done.length 0=h:=by rw[e];simp
  refine aI (O.step hm (by rw[e] at hl;simp at hl;exact ao (cU ..) hl)) λ j e1 O'=>?_;rw[hg] at e1;haveI:=za hm hs agv (done++[h]) _ (by rw[e];simp) hl (by simpa using O');rw[List.foldl_cons];simp only[e1,Option.bind_eq_bind,Option.bind_some,Option.pure_def];simpa using this
theorem D6{mask:Nat}(hm:kl mask)(hs:List Int)(hl:hs.length<=mask):∃agu,layClean mask hs.toArray=some agu/\OW mask agu hs hs.length:=by
 refine aI (za hm hs hs [] (Array.replicate (mask+1) none) rfl hl (OW.nil mask hs)) λ agu e O=>?_;refine⟨agu,?_,O⟩;unfold layClean;rw[List.foldl_toArray']
 .rw[show([]:List Int).length=0 from rfl] at e;rw[e];rfl
 .simp
noncomputable def live(agu:Array (Option Nat))(n:Nat):List (Nat×Nat):=(List.range n).filterMap λ j=>(agu.getD j none).map (j,·)
theorem ic:(j,m)∈live agu n↔j<n/\agu[j]?=some (some m):=by
 unfold live;rw[kx];constructor
 .rintro⟨a,ha,e⟩;rw[Option.map_eq_some_iff] at e;refine aI e λ b e1 e2=>?_;cases e2;refine⟨by simpa using ha,?_⟩;unfold Array.getD at e1;split at e1
  .rename_i e7;rw[Array.getElem?_eq_getElem e7];exact congrArg some e1
  .cases e1
 .rintro⟨h1,h2⟩;refine⟨j,by simpa using h1,?_⟩;haveI:agu.getD j none=some m:=by
   letI a:=((mC.mp h2)).choose;haveI b:=((mC.mp h2)).choose_spec;simp[Array.getD,a,b]
  rw[this];rfl
theorem He(agu:Array (Option Nat))(n:Nat):(live agu n).Pairwise (λ a b=>a.1<b.1):=by
 unfold live;rw[List.pairwise_filterMap];refine List.Pairwise.imp ?_ (List.pairwise_lt_range (n:=n));intro a b U6 x hx y hy;rw[Option.map_eq_some_iff] at hx hy;refine aI hx λ _ _ z3=>?_;obtain rfl:=z3;refine aI hy λ _ _ z3=>?_;obtain rfl:=z3;exact U6
theorem K7{mask:Nat}(hm:kl mask)(finger moves:Nat)(led plain:Bool)(hs:List Int)(hl:hs.length<=mask):∃(t:SetTable) (order:List Nat),laid mask finger moves led plain hs.toArray=some (t,order.toArray)/\TG t (order.map λ m=>hs.getD m 0)/\t.mask=mask/\t.moves=moves/\t.led=led/\t.plain=plain/\t.finger=finger/\(∀m,m∈order↔m<hs.length)/\order.length=hs.length:=by
 refine aI (D6 hm hs hl) λ agu e O=>?_;have hr:=He agu (mask+1);refine⟨{ mask,place:=((live agu (mask+1)).map (·.1)).toArray,dummies:=#[],finger,led,moves,plain},((live agu (mask+1)).map (·.2)),?_,?_⟩
 .unfold laid;rw[e];rfl
 .have Bb:∀m,m∈(live agu (mask+1)).map (·.2)↔m<hs.length:=by
   intro m;rw[gm];constructor
   .rintro⟨⟨j,m'⟩,h1,rfl⟩;exact O.lt j m' (ic.mp h1).2
   .intro RP;refine aI (O.all m RP) λ j e _=>?_;haveI:j<mask+1:=by
     haveI:=(mC.mp e).1;rw[O.size] at this;exact this
    exact⟨(j,m),ic.mpr ⟨this,e⟩,rfl⟩
  haveI hnd:((live agu (mask+1)).map (·.2)).Nodup:=by
   refine List.pairwise_map.mpr ((List.pairwise_iff_forall_sublist.mpr ?_));intro a b U6 he;haveI:=O.inj a.1 b.1 a.2 (ic.mp (U6.subset (by simp):a∈live agu (mask+1))).2 (by rw[he];exact(ic.mp (U6.subset (by simp):b∈live agu (mask+1))).2);haveI h3:=(List.pairwise_iff_forall_sublist.mp hr) U6;exact dI h3 this
  haveI agw:((live agu (mask+1)).map (·.2)).length=hs.length:=by
   haveI h1:=rg hs.length _ λ j hj=>(Bb j).mpr hj;haveI hle:∀(k:Nat) (l:List Nat),l.Nodup->(∀m∈l,m<k)->l.length<=k:=by
     intro k;induction k with
     |zero=>intro l _ h;induction l with|nil=>simp|cons a l=>have:=h a (by simp);exact rR this
     |succ k ih=>
      intro l h1 h2;have:=ih (l.erase k) (h1.erase k) λ m hm=>by
       have:=h2 m (List.mem_of_mem_erase hm)
       have eZ:m≠k:=by
        rintro rfl;exact(List.Nodup.not_mem_erase h1) hm
       exact B3 this eZ
      by_cases U5:k∈l
      .rw[List.length_erase_of_mem U5] at this;exact Nat.le_add_of_sub_le this
      .rw[List.erase_of_not_mem U5] at this;exact eR this
   haveI h2:=hle hs.length _ hnd λ m hm=>(Bb m).mp hm;exact Nat.le_antisymm h2 h1
  have Hf:∀j,j∈((live agu (mask+1)).map (·.1)).toArray↔(j<mask+1/\Own agu j):=by
   intro j;rw[List.mem_toArray,gm];constructor
   .rintro⟨⟨j',m⟩,h1,rfl⟩;exact⟨(ic.mp h1).1,m,(ic.mp h1).2⟩
   .rintro⟨h1,m,h2⟩;exact⟨(j,m),ic.mpr ⟨h1,h2⟩,rfl⟩
  refine⟨⟨hm,rfl,?_,?_,?_,?_⟩,rfl,rfl,rfl,rfl,rfl,Bb,agw⟩
  .show G6 ((live agu (mask+1)).map (·.1)).toArray.toList;exact List.pairwise_map.mpr hr
  .intro j hj;exact((Hf j).mp hj).1
  .simp
  .intro i hi;show ahp mask _ ((((live agu (mask+1)).map (·.2)).map (λ m=>hs.getD m 0)).getD i 0) (((live agu (mask+1)).map (·.1)).toArray[i]'hi);have qT:i<(live agu (mask+1)).length:=by simpa using hi
   haveI e1:((live agu (mask+1)).map (·.1)).toArray[i]'hi=((live agu (mask+1))[i]).1:=by simp
   haveI e2:(((live agu (mask+1)).map (·.2)).map (λ m=>hs.getD m 0)).getD i 0=hs.getD ((live agu (mask+1))[i]).2 0:=by
    rw[jG,gj (by simpa using qT)];simp
   rw[e1];haveI e3:(((live agu (mask+1)).map (·.2)).map (λ m=>hs.getD m 0)).getD i 0=hs.getD ((live agu (mask+1))[i]).2 0:=e2;rw[e3];haveI vj:=ic.mp (List.getElem_mem qT:(live agu (mask+1))[i]∈live agu (mask+1));refine aI (O.all _ (O.lt _ _ vj.2)) λ j ej pj=>?_;haveI this:((live agu (mask+1))[i]).1=j:=O.inj _ _ _ vj.2 ej;rw[this];obtain⟨k,ek,hk⟩:=pj;refine⟨k,ek,λ k' l7=>(Hf _).mpr ⟨?_,hk k' l7⟩⟩;obtain⟨m,em⟩:=hk k' l7;haveI:=(mC.mp em).1;rw[O.size] at this;exact this
end Internal
namespace Internal
open PySem PyProof.Rows
mutual
def kO(w:World):PyData->Int
 |.str x=>hashStr w x
 |.tuple xs=>reduceHash (Builtin.Tuple.tupleHashOf (jt w xs))
 |_=>0
def jt(w:World):List PyData->List Int
 |[]=>[]
 |x::xs=>kO w x::jt w xs
end
theorem N1:jt w ([])=([]):=rfl
theorem N2:jt w (x::xs)=(kO w x::jt w xs):=rfl
section
variable {Φ:Fz}{Ps:List Value->List PyData->Prop}{prog:Program}{w:World}{E:Value->Shared->Prop}{A:Around}
theorem sR{s:Shared}{a:Addr}(h:s.heap.get? a=some (gG vs n)):s.TypeIs (.ref a) "tuple":=⟨_,h,rfl⟩
theorem RD.xl{P:Value->PyData->Prop}(hs:∀x t,P (.str x t) (.str x))(ht:∀{a vs n xs},Φ a=some (gG vs n)->Ps vs xs->P (.ref a) (.tuple xs))(hn:Ps [] [])(hc:∀{v vs x xs},P v x->Ps vs xs->Ps (v::vs) (x::xs))(r:RD Φ v x):hk x=true->P v x:=
 RD.rec (motive_1:=λ v x _=>hk x=true->P v x) (motive_2:=λ vs xs _=>pS xs=true->Ps vs xs) nofun (λ _=>nofun) (λ _ _=>nofun) (λ x t _ _=>hs x t) (λ e _ k h=>ht e (k h)) (λ _ _ _=>nofun) (λ _=>hn) (λ _ _ k l h=>hc (k (oy.mp h).1) (l (oy.mp h).2)) r
theorem K8{Q:Int->Shared->Prop}(r:RD Φ v x)(h:hk x=true)(hf:(∀a o,Φ a=some o->s.heap.get? a=some o))(hu:A.units+x.depth+1<cLine)(hQ:(∀k,s.toks<=k->Q (kO w x) { s with toks:=k})):wpAny (model prog w) A (pyHash v) Q E s:=by
 revert A s Q;refine RD.xl (P:=λ v x=>∀{A:Around} {s:Shared} {Q:Int->Shared->Prop},(∀a o,Φ a=some o->s.heap.get? a=some o)->A.units+x.depth+1<cLine->(∀k,s.toks<=k->Q (kO w x) { s with toks:=k})->wpAny (model prog w) A (pyHash v) Q E s)
  (Ps:=λ vs xs=>∀{done:Array Int} {A:Around} {s:Shared} {Q:Array Int->Shared->Prop},(∀a o,Φ a=some o->s.heap.get? a=some o)->A.units+PyData.depthAll xs+1<cLine->(∀k,s.toks<=k->Q (done++(jt w xs).toArray) { s with toks:=k})->wpAny (model prog w) A (forIn vs done λ x r=>do let h ←pyHash x;pure (ForInStep.yield (r.push h))) Q E s) ?_ ?_ ?_ ?_ r h
 .exact λ x t _ _ _ _ _ hQ=>wpAny_pyHash_str (hQ _ (Nat.le_succ _))
 .intro a vs n xs e rs A s Q hf hu hQ;have ho:=hf _ _ e;have hT:s.TypeIs (.ref a) "tuple":=sR ho
  first|unfold pyHashByItsType|skip
  first|refine ak (wpAny_cRoomFor_or (.inr (by exact eQ (ao (cU ..) (cU ..)) hu)) ?_)|skip
  refine ak (wpAny_specialOf hT F.slot_tuple_hash.lookup ?_);show wpAny _ _ (if(some (Value.builtin "tuple.__hash__")==some Value.none)=true then _ else _) Q E s;rw[if_neg (by refine bO (beq_builtin_none ..) ?_;exact Bool.false_ne_true)];refine ak (wpAny_specialOf hT F.slot_tuple_hash.lookup ?_);show wpAny _ _ (callSpecialIfBoundUnlessNone? (.ref a) "__hash__" _ >>= _) Q E s;refine ak (wpAny_callSpecialIfBoundUnlessNone?_slot hT F.slot_tuple_hash (wpAny_call_entry F.slot_tuple_hash hT F.entry_tuple_hash ?_ (F.args_tuple_hash_1 _)));show wpAny _ _ (Builtin.Tuple.tupleItemsOf (.ref a) >>= _) _ _ s;refine ak (wpAny_tupleItemsOf ho rfl ?_);refine ak ?_;refine Nu (Array.forIn_toList ..) ?_;refine rs (A:=A.in1) (done:=#[]) hf (by simp only[pd1,u5,Xl,wQ] at hu;simp only[Around.in1_units];exact TQ hu) λ k hk=>?_;show wpAny _ _ (retInt (Builtin.Tuple.tupleHashOf _)) _ _ _;refine wpAny_ret_mkInt ?_;have eq:((#[]:Array Int)++(jt w xs).toArray).toList=jt w xs:=by simp
  refine bO (eq ..) ?_;show wpAny _ _ (if(decide (-(2:Int) ^ 63<=Builtin.Tuple.tupleHashOf (jt w xs))&&decide (Builtin.Tuple.tupleHashOf (jt w xs)<2 ^ 63))=true then _ else _) Q E _;have hq:∀k,s.toks<=k->Q (reduceHash (Builtin.Tuple.tupleHashOf (jt w xs))) { s with toks:=k}:=hQ;unfold reduceHash at hq;by_cases hr:(decide (-(2:Int) ^ 63<=Builtin.Tuple.tupleHashOf (jt w xs))&&decide (Builtin.Tuple.tupleHashOf (jt w xs)<2 ^ 63))=true
  .refine bO (if_pos hr ..) ?_;haveI hq:=(if_pos hr)▸hq;exact aF (hq _ (eR hk))
  .refine bO (if_neg hr ..) ?_;haveI hq:=(if_neg hr)▸hq;exact ak (wpAny_rule (aF (hq _ (eR hk))))
 .intro done A s Q hf hu hQ;rw[List.forIn_nil];exact aF (by simpa[N1,N2] using hQ s.toks (cy _))
 .intro v vs x xs r rs done A s Q hf hu hQ;simp only[vA,uW] at hu;refine bO (List.forIn_cons ..) ?_;refine ak (ak (r hf (by exact S5 hu) λ k hk=>aF ?_));dsimp only;refine rs (s:={ s with toks:=k}) hf (by exact S6 hu) λ k' l7=>?_;have:=hQ k' (ao hk l7)
  (first|rw[N1] at this|rw[N2] at this)
  have e:done.push (kO w x)++(jt w xs).toArray=done++(kO w x::jt w xs).toArray:=by simp
  refine bO (e ..) ?_;exact this
theorem zb{Q:Bool->Shared->Prop}(r:RD Φ v x)(h:hk x=true)(hf:∀a o,Φ a=some o->s.heap.get? a=some o)(hn:x.depth<=n)(hQ:Q true s):wpAny (model prog w) A (eqIsQuiet n v) Q E s:=by
 revert s n Q;refine RD.xl (P:=λ v x=>∀{s:Shared} {n:Nat} {Q:Bool->Shared->Prop},(∀a o,Φ a=some o->s.heap.get? a=some o)->x.depth<=n->Q true s->wpAny (model prog w) A (eqIsQuiet n v) Q E s)
  (Ps:=λ vs xs=>∀{s:Shared} {n:Nat} {Q:Option Bool×PUnit->Shared->Prop},(∀a o,Φ a=some o->s.heap.get? a=some o)->PyData.depthAll xs<=n->Q (none,⟨⟩) s->wpAny (model prog w) A (forIn vs ((none,⟨⟩):Option Bool×PUnit) λ y r=>do
   let b ←eqIsQuiet n y
   if(!b)=true then pure (ForInStep.done (some false,⟨⟩)) else do pure PUnit.unit;pure (ForInStep.yield (none,⟨⟩))) Q E s) ?_ ?_ ?_ ?_ r h
 .exact λ x t s n Q _ _ hQ=>bO (eqIsQuiet_byValue n rfl ..) (aF hQ)
 .intro a vs _ xs e rs s n Q hf hn hQ;have ho:=hf _ _ e;have hT:s.TypeIs (.ref a) "tuple":=sR ho;unfold eqIsQuiet;refine ak (wpAny_specialOf hT F.slot_tuple_eq.lookup ?_);show wpAny _ _ (isInstance (.ref a) (.type "tuple") >>= _) _ _ s;refine ak (wpAny_isInstance hT isSubtype_tuple_tuple ?_);simp only[Bool.not_true,Bool.false_eq_true,if_false];simp only[u5] at hn;obtain⟨m',rfl⟩:∃m',n=m'+1:=⟨n - 1,by exact AG hn⟩;dsimp only;refine ak (wpAny_seqItems ho rfl ?_);refine ak ?_;show wpAny _ _ (forIn vs.toArray _ _) _ _ s;refine Nu (Array.forIn_toList ..) ?_;refine rs hf (by exact M1 hn) ?_;exact aF hQ
 .intro s n Q hf hu hQ;rw[List.forIn_nil];exact aF hQ
 .intro v vs x xs r rs s n Q hf hu hQ;simp only[uW] at hu;rw[List.forIn_cons];refine ak (ak (r hf (by exact rM hu) ?_));simp only[Bool.not_true,Bool.false_eq_true,if_false];refine aF ?_;exact rs hf (by exact pM hu) hQ
theorem Bc{Q:Bool->Shared->Prop}(r:RD Φ v x)(h:hk x=true)(hf:∀a o,Φ a=some o->s.heap.get? a=some o)(hQ:∀b,Q b s):wpAny (model prog w) A (hashByValue n v) Q E s:=by
 revert s n Q;refine RD.xl (P:=λ v x=>∀{s:Shared} {n:Nat} {Q:Bool->Shared->Prop},(∀a o,Φ a=some o->s.heap.get? a=some o)->(∀b,Q b s)->wpAny (model prog w) A (hashByValue n v) Q E s)
  (Ps:=λ vs xs=>∀{s:Shared} {n:Nat} {Q:Option Bool×PUnit->Shared->Prop},(∀a o,Φ a=some o->s.heap.get? a=some o)->(∀r,Q r s)->wpAny (model prog w) A (forIn vs ((none,⟨⟩):Option Bool×PUnit) λ y r=>do
   let b ←hashByValue n y
   if(!b)=true then pure (ForInStep.done (some false,⟨⟩)) else do pure PUnit.unit;pure (ForInStep.yield (none,⟨⟩))) Q E s) ?_ ?_ ?_ ?_ r h
 .intro x t s n Q _ hQ;have:hashByValue n (.str x t)=pure false:=by induction n<;>rfl
  exact bO this (aF (hQ _))
 .intro a vs _ xs e rs s n Q hf hQ;have ho:=hf _ _ e;induction n with
  |zero=>exact aF (hQ _)
  |succ n=>
   refine ak (wpAny_specialOf (sR ho) F.slot_tuple_hash.lookup ?_);show wpAny _ _ (seqItems? (.ref a) >>= _) _ _ s;refine ak (wpAny_seqItems ho rfl ?_);refine ak ?_;show wpAny _ _ (forIn vs.toArray _ _) _ _ s;refine Nu (Array.forIn_toList ..) ?_;refine rs hf λ r=>?_;obtain⟨o,u⟩:=r;induction o with
   |none=>exact aF (hQ _)
   |some b=>exact aF (hQ _)
 .intro s n Q hf hQ;rw[List.forIn_nil];exact aF (hQ _)
 .intro v vs x xs r rs s n Q hf hQ;rw[List.forIn_cons];refine ak (ak (r hf λ b=>?_));induction b with
  |true=>
   simp only[Bool.not_true,Bool.false_eq_true,if_false];refine aF ?_;exact rs hf hQ
  |false=>
   simp only[Bool.not_false,if_true];exact aF (aF (hQ _))
theorem zd{Q:Bool->Shared->Prop}(r:RD Φ v x)(h:hk x=true)(hf:∀a o,Φ a=some o->s.heap.get? a=some o)(hn:x.depth<=n)(hQ:Q false s):wpAny (model prog w) A (ofAClassStatement n v) Q E s:=by
 revert s n Q;refine RD.xl (P:=λ v x=>∀{s:Shared} {n:Nat} {Q:Bool->Shared->Prop},(∀a o,Φ a=some o->s.heap.get? a=some o)->x.depth<=n->Q false s->wpAny (model prog w) A (ofAClassStatement n v) Q E s)
  (Ps:=λ vs xs=>∀{s:Shared} {n:Nat} {Q:Option Bool×PUnit->Shared->Prop},(∀a o,Φ a=some o->s.heap.get? a=some o)->PyData.depthAll xs<=n->Q (none,⟨⟩) s->wpAny (model prog w) A (forIn vs ((none,⟨⟩):Option Bool×PUnit) λ y r=>do
   let b ←ofAClassStatement n y
   if b=true then pure (ForInStep.done (some true,⟨⟩)) else do pure PUnit.unit;pure (ForInStep.yield (none,⟨⟩))) Q E s) ?_ ?_ ?_ ?_ r h
 .intro x t s n Q _ _ hQ;have:ofAClassStatement n (.str x t)=pure false:=by induction n<;>rfl
  exact bO this (aF hQ)
 .intro a vs _ xs e rs s n Q hf hn hQ;have ho:=hf _ _ e;simp only[u5] at hn;obtain⟨m',rfl⟩:∃m',n=m'+1:=⟨n - 1,by exact AG hn⟩;unfold ofAClassStatement;refine ak (wpAny_typeOf (sR ho) ?_);dsimp only;rw[if_pos (by decide)];refine ak (aF ?_);simp only[Bool.not_true,Bool.false_eq_true,if_false];refine ak (wpAny_seqItems ho rfl ?_);dsimp only;refine ak ?_;show wpAny _ _ (forIn vs.toArray _ _) _ _ s;refine Nu (Array.forIn_toList ..) ?_;refine rs hf (by exact M1 hn) ?_;exact aF hQ
 .intro s n Q hf hu hQ;rw[List.forIn_nil];exact aF hQ
 .intro v vs x xs r rs s n Q hf hu hQ;simp only[uW] at hu;rw[List.forIn_cons];refine ak (ak (r hf (by exact rM hu) ?_));simp only[Bool.false_eq_true,if_false];refine aF ?_;exact rs hf (by exact pM hu) hQ
theorem K9{c:Prop}[Decidable c]{a b:Prop}(ha:a)(hb:b):if c then a else b:=by split<;>assumption
theorem D7(r:RD Φ v x)(hh:hk x=true)(hd:x.depth<=8)(hf:∀a o,Φ a=some o->s.heap.get? a=some o):∀{ys:List Value} {Q:Bool->Shared->Prop},(∀y∈ys,∃z,RD Φ y z/\hk z=true/\z.depth<=8)->Q false s ->
  wpAny (model prog w) A (searchCouldBeSeen v ys) Q E s:=by
 intro ys Q hy hQ;refine ak (wpAny_forIn_list _ (λ agv r s'=>r.1=none/\s'=s/\∀y∈agv,∃z,RD Φ y z/\hk z=true/\z.depth<=8) _ ?_ ?_ _ _ ⟨rfl,rfl,hy⟩)
 .rintro y agv rr s' ⟨hr,rfl,u9⟩;refine gp (u9 y dC) λ z rz hz hdz=>?_;have N3:∀y∈agv,∃z,RD Φ y z/\hk z=true/\z.depth<=8:=λ y hy=>u9 y (d8 _ hy);dsimp only;refine wpAny_ite ?_;refine K9 (aF ⟨rfl,rfl,N3⟩) ?_
  .refine ak (zb r hh hf hd ?_);simp only[Bool.not_true,Bool.false_eq_true,if_false];refine ak (zb rz hz hf hdz ?_);simp only[Bool.not_true,Bool.false_eq_true,if_false];refine ak (zd r hh hf hd ?_);simp only[Bool.false_eq_true,if_false];refine ak (zd rz hz hf hdz ?_);simp only[Bool.false_eq_true,if_false];exact aF ⟨rfl,rfl,N3⟩
 .rintro⟨r1,r2⟩ s' ⟨hr,rfl,_⟩;simp only at hr;refine bO hr ?_;exact aF hQ
end
set_option backward.match.sparseCases true
theorem Hg{d:PyData}(h:hk d=true):(∃s,d=.str s)\/∃xs,d=.tuple xs/\pS xs=true:=by
 cases d with
 |str s=>exact .inl ⟨s,rfl⟩
 |tuple xs=>exact .inr ⟨xs,rfl,h⟩
 |_=>cases h
mutual
theorem tW:∀{x y:PyData},hk x=true->hk y=true->(PyData.eqv x y=true↔x=y)
 |.str a,_,_,h=>by
  rcases Hg h with⟨b,rfl⟩|⟨ys,rfl,_⟩<;>simp[PyData.eqv]
 |.tuple xs,_,h1,h=>by
  rcases Hg h with⟨b,rfl⟩|⟨ys,rfl,h2⟩
  .simp[PyData.eqv]
  .haveI:=vV (xs:=xs) (ys:=ys) h1 h2;simp[PyData.eqv,this]
 |.none,_,h,_=>by cases h
 |.bool _,_,h,_=>by cases h
 |.int _,_,h,_=>by cases h
 |.list _,_,h,_=>by cases h
 |.dict _,_,h,_=>by cases h
theorem vV:∀{xs ys:List PyData},pS xs=true->pS ys=true->(PyData.eqvAll xs ys=true↔xs=ys)
 |[],[],_,_=>by simp[PyData.eqvAll]
 |x::xs,y::ys,h1,h2=>by
  ((first|rewrite[Ue] at h1 h2|rewrite[Ug] at h1 h2);rw[dN] at h1 h2)
  simp[PyData.eqvAll,tW h1.1 h2.1,vV h1.2 h2.2]
 |[],_::_,_,_=>by simp[PyData.eqvAll]
 |_::_,[],_,_=>by simp[PyData.eqvAll]
end
section
variable {vs JY:List Value}{n n':Nat}
theorem Hh(h:some (gG vs n)=some (gG JY n')):vs=JY:=by
 have h2:(Data.seq vs.toArray n)=Data.seq JY.toArray n':=congrArg Obj.data (bD h);injection h2 with h3
 simpa using congrArg Array.toList h3
theorem Hi(h:some (dE vs n)=some (dE JY n')):vs=JY:=by
 have h2:(Data.seq vs.toArray n)=Data.seq JY.toArray n':=congrArg Obj.data (bD h);injection h2 with h3
 simpa using congrArg Array.toList h3
theorem CH(h:some (gG vs n)=some (dE JY n')):False:=by
 haveI:=congrArg Obj.cls (bD h);simp[gG,dE] at this
end
def RDv(Φ:Fz)(y:PyData):Value->Prop
 |.none=>y=.none
 |.bool b=>y=.bool b
 |.int i _=>y=.int i
 |.str x _=>y=.str x
 |.ref a=>(∃vs n xs,y=.tuple xs/\Φ a=some (gG vs n)/\dF Φ vs xs)\/(∃vs n xs,y=.list xs/\Φ a=some (dE vs n)/\dF Φ vs xs)
 |_=>False
theorem RD.v{Φ:Fz}{v:Value}{x:PyData}(r:RD Φ v x):RDv Φ x v:=
 RD.casesOn (motive_1:=λ v x _=>RDv Φ x v) r rfl (λ _=>rfl) (λ _ _=>rfl) (λ _ _ _=>rfl) (λ e r=>.inl ⟨_,_,_,rfl,e,r⟩) (λ e r=>.inr ⟨_,_,_,rfl,e,r⟩)
theorem RD.inj{Φ:Fz}{v:Value}{x:PyData}(r:RD Φ v x):∀{y:PyData},RD Φ v y->x=y:=
 RD.rec (motive_1:=λ v x _=>∀{y:PyData},RD Φ v y->x=y) (motive_2:=λ vs xs _=>∀{ys:List PyData},dF Φ vs ys->xs=ys) (λ r=>r.v.symm) (λ _=>λ r=>r.v.symm) (λ _ _=>λ r=>r.v.symm) (λ _ _ _=>λ r=>r.v.symm)
  (λ e _ k=>λ r=>r.v.elim (λ q=>q.elim λ _ q=>q.elim λ _ q=>q.elim λ _ q=>(congrArg PyData.tuple (k (Hh (e.symm.trans q.2.1)▸q.2.2))).trans q.1.symm) λ q=>q.elim λ _ q=>q.elim λ _ q=>q.elim λ _ q=>(CH (e.symm.trans q.2.1)).elim)
  (λ e _ k=>λ r=>r.v.elim (λ q=>q.elim λ _ q=>q.elim λ _ q=>q.elim λ _ q=>(CH (q.2.1.symm.trans e)).elim) λ q=>q.elim λ _ q=>q.elim λ _ q=>q.elim λ _ q=>(congrArg PyData.list (k (Hi (e.symm.trans q.2.1)▸q.2.2))).trans q.1.symm)
  (λ{ys} r=>by
   induction ys with
   |nil=>rfl
   |cons y ys _=>exact r.i.elim λ _ q=>q.elim λ _ q=>nomatch q.1)
  (λ _ _ k l=>λ{ys} r=>by
   induction ys with
   |nil=>exact nomatch r.i
   |cons y ys _=>
    obtain⟨v,ws,q,r1,r2⟩:=r.i;injection q with q1 q2
    rw[k (q1▸r1),l (q2▸r2)]) r
structure Hd(x:PyData):Prop where
 tup:∃xs,x=.tuple xs
 hk:hk x=true
 dp:x.depth<=8
structure Fv(w:World)(Φ:Fz)(o:Obj)(es:Array (Int×Value))(ep:Nat)(t:SetTable)(ds:List PyData):Prop where
 cls:o.cls=.type "set"
 dct:o.dict=none
 slt:o.slots=#[]
 data:o.data=.set es ep t
 tab:TG t (es.toList.map (·.1))
 room:es.size * 5<t.mask * 3
 e1:∀e∈es.toList,∃d∈ds,RD Φ e.2 d/\e.1=kO w d
 e2:∀d∈ds,∃e∈es.toList,RD Φ e.2 d/\e.1=kO w d
 size:es.size=ds.length
 hd:∀d∈ds,Hd d
section
variable {w:World}{Φ:Fz}{o:Obj}{es:Array (Int×Value)}{ep i:Nat}{t:SetTable}{ds:List PyData}
theorem Fv.fits(G:Fv w Φ o es ep t ds):t.fits es.size=true:=by
 haveI h1:=G.tab.size;haveI h2:=G.tab.RZ;haveI h3:=G.room;have h4:t.place.size=es.size:=by rw[h1];simp
 simp only[SetTable.fits,SetTable.fill,h2,dN,beq_iff_eq,decide_eq_true_eq];refine⟨h4,?_⟩;simp;exact ao (bV h4) (MY h3)
theorem Fv.le(G:Fv w Φ o es ep t ds):(es.toList.map (·.1)).length<=t.mask:=by
 haveI h3:=G.room;simp;exact MY h3
theorem Fv.odd(G:Fv w Φ o es ep t ds):t.gaveWay=false:=by
 haveI:=G.tab.mask;unfold SetTable.gaveWay;rcases this with h|h<;>rw[h]<;>rfl
theorem Fv.at(G:Fv w Φ o es ep t ds)(hi:i<t.place.size):∃e,es[i]?=some e/\e∈es.toList/\(es.toList.map (·.1)).getD i 0=e.1:=by
 haveI h1:=G.tab.size;have h4:i<es.size:=by rw[h1] at hi;simpa using hi
 refine⟨es[i],Array.getElem?_eq_getElem h4,by simp,?_⟩;rw[jG,gj (by simpa using h4)];simp
end
noncomputable def YX(es:Array (Int×Value))(i:Nat):Int:=(es[i]?.map (·.1)).getD 0
noncomputable def CI(S:Addr)(v:Value)(h:Int)(fuel:Nat)(es:Array (Int×Value))(t:SetTable)(j i:Nat)(next:SetTable.Probe):Sem SetFound:=do
 let some (_,y):=es[i]? | unsupported "internal:set-entry"
 let equal ←holding [y] (eqBool y v)
 let(Be,_,t') ←setState S
 if true&&equal then return .there none
 let some same:=t'.sameMemory t.moves t.mask|unsupported "set.changed-during-lookup:is-the-new-block-at-the-old-address"
 let U7 ←match(if same then t'.slot j else .empty) with
  |.live i'=>match Be[i']? with
   |some (_,y')=>do pure (if←isSame y' y then some i' else none)
   |none=>pure none
  |_=>pure none
 match U7 with
 |none=>rule "set.search.anew";setSearchFrom S v h true fuel none
 |some i'=>if equal then return .there (some i') else setSearchFrom S v h true fuel (some next)
def Hj(S:Addr)(v:Value)(h:Int)(fuel:Nat)(es:Array (Int×Value))(t:SetTable)(j i:Nat)(next:SetTable.Probe):Sem SetFound:=do
 if !t.led then
  if←searchCouldBeSeen v ((es.filter (·.1==h)).toList.map (·.2)) then unsupported "set:the-search-would-show-the-table"
 CI S v h fuel es t j i next
def U8(S:Addr)(v:Value)(h:Int)(fuel:Nat)(es:Array (Int×Value))(t:SetTable):SetTable.Met->Sem SetFound
 |.empty j dummy=>do
   match dummy with
   |none=>return .free j false
   |some d=>
    if true&&t.slot d != .dummy then rule "set.search.the-dummy-was-taken";return←setSearchFrom S v h true fuel none
    return .free d true
 |.candidate j i next=>Hj S v h fuel es t j i next
def Hk(S:Addr)(v:Value)(h:Int)(fuel:Nat)(mX:Option SetTable.Probe)(p:Array (Int×Value)×Nat×SetTable):Sem SetFound:=do
 if p.2.2.gaveWay then unsupported "set:on-a-table-that-gave-way"
 let some met:=p.2.2.probe (YX p.1) h (mX.getD (p.2.2.probeStart h))|unsupported "internal:set-table-without-an-empty-slot"
 U8 S v h fuel p.1 p.2.2 met
section
variable {S:Addr}{v:Value}{h hv:Int}{ep fuel i j:Nat}{mX:Option SetTable.Probe}{es:Array (Int×Value)}{t:SetTable}{prog:Program}{w:World}{E:Value->Shared->Prop}{Φ:Fz}{A:Around}{s:Shared}{ds:List PyData}{d x:PyData}{Q:SetFound->Shared->Prop}{next:SetTable.Probe}
theorem U9:setSearchFrom S v h true (fuel+1) mX=(setState S >>= Hk S v h fuel mX):=rfl
theorem zf{m:SetTable.Met}(h1:t.gaveWay=false)(h2:t.probe (YX es) h (mX.getD (t.probeStart h))=some m):Hk S v h fuel mX (es,ep,t)=U8 S v h fuel es t m:=by
 unfold Hk;dsimp only;rw[h1,h2];rfl
theorem D8{o:Obj}(ho:s.heap.get? S=some o)(G:Fv w Φ o es ep t ds)(hf:∀a o,Φ a=some o->s.heap.get? a=some o)(r:RD Φ v x)(hx:Hd x)(hu:A.units+20<cLine){e:Int×Value}(hi:i<t.place.size)(hj:t.place[i]=j)(he:es[i]?=some e)(Xs:d∈ds)(rd:RD Φ e.2 d)(xm:x∈ds->Q (.there none) s)(Va:d≠x->wpAny (model prog w) A (setSearchFrom S v hv true fuel (some next)) Q E s):wpAny (model prog w) A (CI S v hv fuel es t j i next) Q E s:=by
 haveI GU:=G.hd d Xs;unfold CI;rw[he];obtain⟨eh,y⟩:=e;dsimp only;obtain⟨as,q1⟩:=rd.reads hf;obtain⟨bs,q2⟩:=r.reads hf;refine ak (eD (SeqAt.eqBoolOverData prog w A E s y v d x as bs _ q1 q2 rd.lay r.lay (by have:=hx.dp;have:=Nat.min_le_right d.depth x.depth;exact eQ (eB (aj (m:=20) (ao this ‹_›) rfl) _) hu) ?_));refine ak (wpAny_setState_of ho G.data G.fits ?_);refine mH (PyData.eqv d x) (λ hq=>aF (xm ((tW GU.hk hx.hk).mp hq▸Xs))) (λ hq=>?_);have Vb:t.slot j=.live i:=by refine Nu (hj ..) ?_;exact vT G.tab.J1 hi
 rw[show t.sameMemory t.moves t.mask=some true by simp[SetTable.sameMemory]];simp only[if_true];refine bO (Vb ..) ?_;dsimp only;refine bO (he ..) ?_;obtain⟨xs,rfl⟩:=GU.tup;obtain⟨a,vs,n,rfl,_,_⟩:=rd.i;exact ak (wpAny_isSame_ref_self (ak (aF (Va λ hh=>by haveI hq:=((tW GU.hk hx.hk).mpr hh)▸hq;exact Bool.noConfusion hq))))
theorem D9{o:Obj}(G:Fv w Φ o es ep t ds)(hf:∀a o,Φ a=some o->s.heap.get? a=some o)(r:RD Φ v x)(hx:Hd x)(ht:wpAny (model prog w) A (CI S v hv fuel es t j i next) Q E s):wpAny (model prog w) A (Hj S v hv fuel es t j i next) Q E s:=by
 unfold Hj;cases t.led
 .refine ak (D7 r hx.hk hx.dp hf (λ y hy=>?_) ht);obtain⟨e',uX,rfl⟩:=gm.mp hy;obtain⟨d',vE,rd',_⟩:=G.e1 e' (Array.mem_toList_iff.mpr (Array.mem_filter.mp (Array.mem_toList_iff.mp uX)).1);exact⟨d',rd',(G.hd d' vE).hk,(G.hd d' vE).dp⟩
 .exact ht
end
theorem vW{prog:Program}{w:World}{E:Value->Shared->Prop}{Φ:Fz}{A:Around}{S:Addr}{s:Shared}{o:Obj}{es:Array (Int×Value)}{ep:Nat}{t:SetTable}{ds:List PyData}(ho:s.heap.get? S=some o)(G:Fv w Φ o es ep t ds)(hf:∀a o,Φ a=some o->s.heap.get? a=some o){v:Value}{x:PyData}(r:RD Φ v x)(hx:Hd x)(hu:A.units+20<cLine){Q:SetFound->Shared->Prop}{K:Nat}(hK:(agG t.mask (kO w x) K).j∉t.place)(hl:∀k,k<K->(agG t.mask (kO w x) k).j∈t.place)(Vc:K<10 * SetTable.turns t.mask)(xm:x∈ds->Q (.there none) s)(ji:x∉ds->Q (.free (agG t.mask (kO w x) K).j false) s):∀(fuel k:Nat) (mX:Option SetTable.Probe),k<=K->K - k<fuel->mX.getD (t.probeStart (kO w x))=agG t.mask (kO w x) k ->
   (∀fS,fS<k->∀i (hi:i<t.place.size),t.place[i]=(agG t.mask (kO w x) fS).j->∀e,es[i]?=some e->e.1=kO w x->¬RD Φ e.2 x) ->
   wpAny (model prog w) A (setSearchFrom S v (kO w x) true fuel mX) Q E s
 |0,k,mX,h1,h2,_,_=>by exact rR h2
 |fuel+1,k,mX,h1,h2,h3,h4=>by
  refine bO (U9 ..) ?_;refine ak (wpAny_setState_of ho G.data G.fits ?_);haveI hgo:=G.tab.go (YX es) (kO w x) hK hl (10 * SetTable.turns t.mask) k h1 (by exact S4 Vc);rcases hgo with⟨k',i,a1,a2,hi,a4,a5,a6,a7⟩|⟨a1,a2⟩
  .rw[zf G.odd (by refine bO (h3 ..) ?_;exact a6)];obtain⟨e,he,Xu,Xv⟩:=G.at hi;obtain⟨d,Xs,rd,YY⟩:=G.e1 e Xu;refine D9 G hf r hx (D8 ho G hf r hx hu hi a4 he Xs rd xm λ eZ=>vW ho G hf r hx hu hK hl Vc xm ji fuel (k'+1) _ (by exact a2) (by exact SW a2 a1 h2) rfl ?_);intro fS YZ i' qT hp oP La Vd N4;by_cases h5:fS<k
   .exact h4 fS h5 i' qT hp oP La Vd N4
   .by_cases h6:fS<k'
    .refine a7 fS (by exact jI h5) h6 i' qT hp ?_;show(es[i']?.map (·.1)).getD 0=_;refine bO (La ..) ?_;exact Vd
    .haveI h7:fS=k':=by exact Nat.le_antisymm (Nat.le_of_lt_succ YZ) (Nat.not_lt.mp h6)
     subst h7;haveI:i'=i:=by
      haveI b1:=agU G.tab.J1 qT;haveI b2:=agU G.tab.J1 hi;rw[hp] at b1;rw[a4] at b2;exact FZ b1 b2
     subst this;rw[he] at La;obtain rfl:=bD La;exact eZ (rd.inj N4)
  .rw[zf G.odd (by refine bO (h3 ..) ?_;exact a1)];refine aF (ji λ hxd=>?_);obtain⟨e,Xu,hr,Y0⟩:=G.e2 x hxd;obtain⟨i,hi,rfl⟩:=List.getElem_of_mem Xu;have qT:i<t.place.size:=by refine bO (G.tab.size ..) ?_;simpa using hi
   obtain⟨e,he,Xu,Xv⟩:=G.at qT;have Y1:es[i]?=some es.toList[i]:=by simp at hi;simp[hi]
   obtain⟨fS,Yh,Xq⟩:=G.tab.on hK qT (by refine bO (Xv ..) ?_;cases he.symm.trans Y1;exact Y0);by_cases hkk:fS<k
   .exact h4 fS hkk i qT Xq (es.toList[i]) Y1 Y0 hr
   .exact a2 fS (by exact jI hkk) Yh i qT Xq (by show(es[i]?.map (·.1)).getD 0=_;refine bO (Y1 ..) ?_;exact Y0)
set_option backward.match.sparseCases false
theorem TG.plain(T:TG t hs)(b:Bool):TG { t with plain:=b} hs:=⟨T.mask,T.RZ,T.J1,T.le,T.size,T.path⟩
theorem Lb(T:TG t hs)(h:Int)(k:Nat):(agG t.mask h k).j<t.mask+1:=by
 obtain⟨r,Xr,K6⟩:∃r,ku t.mask h r<=k/\k<ku t.mask h (r+1):=by
  haveI Xv:∀n,n<=ku t.mask h n:=by
   intro n;induction n with
   |zero=>exact dJ _
   |succ n ih=>have:=A9 t.mask h n;exact eQ ih this
  haveI:∀n,k<ku t.mask h n->∃r,ku t.mask h r<=k/\k<ku t.mask h (r+1):=by
   intro n;induction n with
   |zero=>intro hn;simp[tS,tT] at hn
   |succ n ih=>
    intro hn;by_cases hq:k<ku t.mask h n
    .exact ih hq
    .exact⟨n,by exact jI hq,hn⟩
  exact this (k+1) (Xv (k+1))
 (first|rw[tS] at K6|rw[tT] at K6)
 haveI:=qm (tU t.mask h r) (k - ku t.mask h r) (by exact s9 K6);rw[show ku t.mask h r+(k - ku t.mask h r)=k by exact F3 Xr] at this;rw[this];exact tV (mV t.mask h r) (by exact s9 K6)
theorem CJ{h:Heap}{S:Addr}{o:Obj}(ho:h.get? S=some o)(hd:o.data=.set es ep t)(Be:Array (Int×Value))(t':SetTable):(h.update S (Obj.putSet Be t')).get? S=some { o with data:=.set Be (ep+1) t'}:=by
 haveI:=Heap.get?_update_self (Obj.putSet Be t') ho (by rw[putSet_of Be t' hd];rfl);rw[putSet_of Be t' hd] at this;exact this
theorem Hl{prog:Program}{w:World}{E:Value->Shared->Prop}{A:Around}{S:Addr}{s:Shared}{o:Obj}(ho:s.heap.get? S=some o)(hd:o.data=.set es ep t)(T:TG t (es.toList.map (·.1)))(hm:t.mask=7)(hn:es.size=5){Q:Unit->Shared->Prop}(hQ:∀Be t',TG t' (Be.toList.map (·.1))->t'.mask=31->Be.size=5->(∀e,e∈Be.toList↔e∈es.toList)->Q () { s with heap:=s.heap.update S (Obj.putSet Be t')}):wpAny (model prog w) A (setRelay S (SetTable.grown 5)) Q E s:=by
 haveI Hm:t.fits es.size=true:=by
  haveI h1:=T.size;haveI h2:=T.RZ;have h4:t.place.size=es.size:=by refine bO (h1 ..) ?_;simp
  simp only[SetTable.fits,SetTable.fill,h2,dN,beq_iff_eq,decide_eq_true_eq];refine⟨h4,?_⟩;simp;rw[h4,hn,hm];decide
 refine ak (wpAny_setState_of ho hd Hm ?_);dsimp only;have PZ:SetTable.sizeAbove (SetTable.grown 5)=32:=by decide
 rw[PZ,if_neg (by refine bO (sizeLine_eq ..) ?_;decide)];obtain⟨t',order,h1,h2,h3,h4,h5,h6,h7,h8,h9⟩:=K7 (mask:=31) (.inr rfl) t.finger (t.movedTo 31) t.led t.plain (es.toList.map (·.1)) (by simp;rw[hn];decide);haveI e1:t.relaid (es.map (·.1)) (SetTable.grown 5)=some (t',order.toArray):=by
  refine bO (PZ ..) ?_;haveI:es.map (·.1)=(es.toList.map (·.1)).toArray:=by
   apply Array.ext';simp
  refine bO (this ..) ?_;exact h1
 refine bO (e1 ..) ?_;have agw:(es.toList.map (·.1)).length=es.size:=by simp
 rw[agw] at h8 h9;have Bb:order.toArray.filterMap (es[·]?)=(order.map λ m=>es.toList.getD m (0,.none)).toArray:=by
  apply Array.ext';refine bO (Array.toList_filterMap ..) ?_;have:∀l:List Nat,(∀m∈l,m<es.size)->l.filterMap (es[·]?)=l.map λ m=>es.toList.getD m (0,.none):=by
   intro l;induction l with
   |nil=>intro _;rfl
   |cons m l ih=>
    intro hl;have hm:=hl m (by simp);simp only[List.filterMap_cons,Array.getElem?_eq_getElem hm,List.map_cons,ih λ k hk=>hl k (by simp[hk])];congr 1;rw[jG,gj (by simpa using hm)];simp
  exact this order λ m hm=>(h8 m).mp hm
 haveI qS:(order.toArray.filterMap (es[·]?)).size=es.size:=by refine bO (Bb ..) ?_;simp[h9]
 refine ak ?_;show wpAny (model prog w) A (if((order.toArray.filterMap (es[·]?)).size != es.size)=true then _ else _) _ _ _;rw[if_neg (by refine bO (qS ..) ?_;simp)];refine aF ?_;dsimp only;refine wpAny_storeSet_of ho hd (hQ _ t' ?_ h3 (by refine bO (qS ..) ?_;exact hn) ?_) (by simp only[qS,hn,sizeLine_eq];decide)
 .refine bO (Bb ..) ?_;haveI:((order.map λ m=>es.toList.getD m (0,.none)).toArray.toList.map (·.1))=order.map λ m=>(es.toList.map (·.1)).getD m 0:=by
   simp only[List.map_map];refine List.map_congr_left λ m hm=>?_;haveI sA:=(h8 m).mp hm;simp only[Function.comp,jG,List.getElem?_map];rw[gj (by simpa using sA)];rfl
  refine bO (this ..) ?_;exact h2
 .intro e;refine bO (Bb ..) ?_;simp only[gm];constructor
  .rintro⟨m,hm,rfl⟩;have sA:=(h8 m).mp hm;rw[jG,gj (by simpa using sA)];simp
  .intro he;obtain⟨m,hm,rfl⟩:=List.getElem_of_mem he;refine⟨m,(h8 m).mpr (by simpa using hm),?_⟩;rw[jG,gj hm];rfl
open Classical in
noncomputable def sC(ds:List PyData)(x:PyData):List PyData:=if x∈ds then ds else ds++[x]
theorem xn(h:x∈ds):sC ds x=ds:=by unfold sC;rw[if_pos h]
theorem qo(h:x∉ds):sC ds x=ds++[x]:=by unfold sC;rw[if_neg h]
def SG(w:World)(Φ:Fz)(h:Heap)(S:Addr)(ds:List PyData):Prop:=∃o es ep t,h.get? S=some o/\Fv w Φ o es ep t ds
section
variable {prog:Program}{E Q:Value->Shared->Prop}{A:Around}{I S l:Addr}{fp wr:List Addr}{Gn:Array GenState->Array GenState->Prop}{m n:Nat}{vs:List Value}
theorem P0{w:World}{Φ:Fz}{s:Shared}(G:SG w Φ s.heap S ds)(hf:∀a o,Φ a=some o->s.heap.get? a=some o)(hS:Φ S=none)(r:RD Φ v x)(hx:Hd x)(hu:A.units+20<cLine)(hn:ds.length<18){Q:Bool->Shared->Prop}(hQ:∀b h',Heap.SameBut S s.heap h'->SG w Φ h' S (sC ds x)->Q b { s with heap:=h'}):wpAny (model prog w) A (setAddHashed S v (kO w x)) Q E s:=by
 obtain⟨o,es,ep,t,ho,G⟩:=G;refine gp (G.tab.first G.le (kO w x)) λ K Vc hK hl=>?_;haveI hv:v.scannable=false:=by
  refine bK hx.tup λ xs z2=>?_;obtain rfl:=z2;cases r;rfl
 refine eD (ak (wpAny_setState_of ho G.data G.fits ?_));dsimp only;rw[show byScan v es=false by simp[byScan,hv]];refine ak ?_;refine vW ho G hf r hx hu hK hl Vc (λ Fu=>?_) (λ Ve=>?_) 100000 0 none (dJ _) ?_ rfl (λ fS hk=>by exact rR hk)
 .refine aF ?_;haveI:=hQ false s.heap (Heap.SameBut.refl S s.heap) ⟨o,es,ep,t,ho,by refine bO (xn Fu ..) ?_;exact G⟩;exact this
 .dsimp only;refine ak (wpAny_setState_of ho G.data G.fits ?_);refine DH (G.tab.put hK hl (Lb G.tab (kO w x) K)) λ p1 p2 p3 p4 p5 p6 p7=>?_;obtain⟨t1,A0⟩:∃t1,t1=(t.put (agG t.mask (kO w x) K).j).1:=⟨_,rfl⟩;obtain⟨p,hp⟩:∃p,p=(t.put (agG t.mask (kO w x) K).j).2:=⟨_,rfl⟩;have Lc:t.put (agG t.mask (kO w x) K).j=(t1,p):=by simp only[A0,hp]
  rw[Lc] at p1 p2 p3 p4 p5 p6 p7 ⊢;dsimp only at p1 p2 p3 p4 p5 p6 p7 ⊢;have Y2:(SetTable.insertAt es p (kO w x,v)).toList.map (·.1)=(es.toList.map (·.1)).take p++kO w x::(es.toList.map (·.1)).drop p:=by
   refine bO (cY ..) ?_;simp
  have Hn:(SetTable.insertAt es p (kO w x,v)).size=es.size+1:=by
   refine Nu (Array.length_toList ..) ?_;refine bO (cY ..) ?_;simp at p1;simp;rw[Nat.min_eq_left p1,←Nat.add_assoc,Nat.add_sub_of_le p1]
  have CK:∀e,e∈(SetTable.insertAt es p (kO w x,v)).toList↔(e∈es.toList\/e=(kO w x,v)):=by
   intro e;rw[cY,bX,e8];constructor
   .rintro(h|rfl|h)
    .exact .inl (List.mem_of_mem_take h)
    .exact .inr rfl
    .exact .inl (List.mem_of_mem_drop h)
   .rintro(h|rfl)
    .haveI h:=((List.take_append_drop p es.toList).symm)▸h;rcases bX.mp h with h|h
     .exact .inl h
     .exact .inr (.inr h)
    .exact .inr (.inl rfl)
  have Vf:∀e,(e∈es.toList\/e=(kO w x,v))->∃d∈ds++[x],RD Φ e.2 d/\e.1=kO w d:=by
   rintro e (h|rfl)
   .letI d:=((G.e1 e h)).choose;haveI hd:=(((G.e1 e h)).choose_spec).1;haveI h1:=((((G.e1 e h)).choose_spec).2).1;haveI h2:=((((G.e1 e h)).choose_spec).2).2;exact⟨d,List.mem_append_left _ hd,h1,h2⟩
   .exact⟨x,by simp,r,rfl⟩
  have Vg:∀d∈ds++[x],∃e,(e∈es.toList\/e=(kO w x,v))/\RD Φ e.2 d/\e.1=kO w d:=by
   intro d hd;rcases bX.mp hd with h|h
   .letI e:=((G.e2 d h)).choose;haveI he:=(((G.e2 d h)).choose_spec).1;haveI h1:=((((G.e2 d h)).choose_spec).2).1;haveI h2:=((((G.e2 d h)).choose_spec).2).2;exact⟨e,.inl he,h1,h2⟩
   .simp at h;subst h;exact⟨(kO w d,v),.inr rfl,r,rfl⟩
  have YY:∀d∈ds++[x],Hd d:=by
   intro d hd;rcases bX.mp hd with h|h
   .exact G.hd d h
   .simp at h;subst h;exact hx
  -- behind the plain mark
  have agv:∀t2:SetTable,TG t2 ((SetTable.insertAt es p (kO w x,v)).toList.map (·.1))->t2.mask=t.mask ->
    wpAny (model prog w) A (do
     storeSet S (SetTable.insertAt es p (kO w x,v)) t2
     if(!false&&t2.tooFull)=true then do
      setRelay S (SetTable.grown (es.size+1))
      pure true
     else pure true) Q E s:=by
   intro t2 T2 K5;refine ak (wpAny_storeSet_of ho G.data ?_ (by simp only[Hn,sizeLine_eq];have:=G.size;exact aj (cv (ao (bV this) (Nat.le_of_lt hn))) rfl));haveI Y3:=CJ ho G.data (SetTable.insertAt es p (kO w x,v)) t2;haveI mA:=Heap.SameBut.update s.heap S (Obj.putSet (SetTable.insertAt es p (kO w x,v)) t2);have Kk:t2.place.size=es.size+1:=by refine bO (T2.size ..) ?_;simp[Hn]
   have N5:t2.fill=es.size+1:=by simp[SetTable.fill,T2.RZ,Kk]
   by_cases zg:t2.tooFull=true
   .refine bO (zg ..) ?_;have h5:t2.mask=7/\es.size+1=5:=by
     unfold SetTable.tooFull at zg;haveI zg:=N5▸zg;haveI zg:=kz zg;haveI:=G.room;haveI:=G.size;haveI Pq:=G.tab.mask;unfold kl at Pq;rw[K5] at zg ⊢;exact SI (eQ (bV this) hn) Pq ‹es.size * 5<_› (K5▸zg)
    refine bO (h5.2 ..) ?_;refine ak (Hl (s:={ s with heap:=s.heap.update S (Obj.putSet (SetTable.insertAt es p (kO w x,v)) t2)}) Y3 rfl T2 h5.1 (by refine bO (Hn ..) ?_;exact h5.2) λ Be t' T' sA lC Pq=>?_);refine aF (hQ true _ (mA.trans (Heap.SameBut.update _ S _)) ⟨_,Be,ep+1+1,t',CJ Y3 rfl Be t',?_⟩);refine bO (qo Ve ..) ?_;exact{ cls:=G.cls,dct:=G.dct,slt:=G.slt,data:=rfl,tab:=T',room:=by refine bO (sA ..) ?_;refine bO (lC ..) ?_;decide,e1:=λ e he=>Vf e ((CK e).mp ((Pq e).mp he)),e2:=λ d hd=>let⟨e,he,h1⟩:=Vg d hd;⟨e,(Pq e).mpr ((CK e).mpr he),h1⟩,size:=by simp only[lC,cO];have:=G.size;simp;exact Nat.succ.inj (this▸h5.2:ds.length+1=4+1),hd:=YY}
   .haveI zg:t2.tooFull=false:=by simpa using zg
    refine bO (zg ..) ?_;refine aF (hQ true _ mA ⟨_,SetTable.insertAt es p (kO w x,v),ep+1,t2,Y3,?_⟩);refine bO (qo Ve ..) ?_;haveI Vh:(SetTable.insertAt es p (kO w x,v)).size * 5<t2.mask * 3:=by
     unfold SetTable.tooFull at zg;haveI zg:=N5▸zg;haveI zg:=of_decide_eq_false zg;refine bO (Hn ..) ?_;exact SP zg
    exact{ cls:=G.cls,dct:=G.dct,slt:=G.slt,data:=rfl,tab:=T2,room:=Vh,e1:=λ e he=>Vf e ((CK e).mp he),e2:=λ d hd=>let⟨e,he,h1⟩:=Vg d hd;⟨e,(CK e).mpr he,h1⟩,size:=by simp only[Hn,cO,G.size];rfl,hd:=YY}
  have T1:TG t1 ((SetTable.insertAt es p (kO w x,v)).toList.map (·.1)):=by refine bO (Y2 ..) ?_;exact p2
  refine mH t1.plain (λ Kk=>?_) (λ Kk=>?_)
  ·
   refine ak (Bc r hx.hk hf λ b=>?_);induction b with
   |true=>exact agv t1 T1 p3
   |false=>exact agv { t1 with plain:=false} (T1.plain false) p3
  ·
   refine ak (aF ?_);exact agv t1 T1 p3
 .haveI:SetTable.turns t.mask<=100:=by
   rcases G.tab.mask with q|q<;>(refine bO (q ..) ?_)<;>decide
  exact iI Vc (aj (mE 10 this) rfl)
def dO(ds xs:List PyData):List PyData:=xs.foldl sC ds
theorem Ho(ds:List PyData)(x:PyData):ds.length<=(sC ds x).length:=by
 by_cases h:x∈ds
 .rw[xn h];exact cy _
 .rw[qo h];simp
theorem tX:∀(xs ds:List PyData),ds.length<=(dO ds xs).length
 |[],ds=>cy _
 |x::xs,ds=>ao (Ho ds x) (tX xs (sC ds x))
theorem zh(xs:List PyData){i:Nat}{x:PyData}(h:xs[i]?=some x):dO [] (xs.take (i+1))=sC (dO [] (xs.take i)) x:=by
 unfold dO;rw[List.take_add_one,h,List.foldl_append];rfl
theorem Bf(xs:List PyData)(i:Nat):(dO [] (xs.take i)).length<=(dO [] xs).length:=by
 have:dO [] xs=dO (dO [] (xs.take i)) (xs.drop i):=by
  unfold dO;rw[←List.foldl_append,List.take_append_drop]
 rw[this];exact tX _ _
theorem Hp{w:World}{Φ:Fz}{R:Result->Shared->Prop}{P:Nat->Value->Prop}{St:Nat->Shared->Prop}(W:WalksS prog w A.in1 I fp wr Gn n P St)(S:Addr)(hSf:S∉fp){xs:List PyData}(hn:n=xs.length)(P5:∀i v,P i v->∃x,xs[i]?=some x/\RD Φ v x)(l6:∀a∈S::wr,Φ a=none)(hx:∀x∈xs,Hd x)(hu:A.units+30<cLine)(hb:(dO [] xs).length<18):∀(k i:Nat) (s:Shared),n - i=k->i<=n->St i s->(∀a o,Φ a=some o->s.heap.get? a=some o)->SG w Φ s.heap S (dO [] (xs.take i)) ->
   (∀s',Moved (S::wr) Gn s s'->SG w Φ s'.heap S (dO [] xs)->R (.ok (.ret .none)) s') ->
   codeAny (model prog w) A (.builtin "set.update.loop" ⟨[.ref S,.ref I],[]⟩) R s:=by
 have hSw:S∉wr:=λ h=>hSf (W.sub _ h);have Hq:∀b∈wr,b∈S::wr:=λ b hb=>d8 _ hb;have apart:∀(s s':Shared),Moved wr Gn s s'->(∀a o,Φ a=some o->s.heap.get? a=some o)->∀a o,Φ a=some o->s'.heap.get? a=some o:=λ s s' hm hf a o e=>
  hm.heap a o (λ Fu=>by have:=l6 a (Hq a Fu);rw[e] at this;cases this) (hf a o e)
 intro k;induction k with
 |zero=>
  intro i s hk hi u7 hf hS hR;have Fu:i=n:=by exact Tx hk hi
  subst Fu;refine codeAny_builtin F.entry_set_update_loop ?_;rw[Around.under_plainId F.plain_set_update_loop _];show wpAny _ A.in1 (pyNext (.ref I) >>= _) _ _ s;refine ak (W.done s _ _ u7 λ s' hm=>?_);show wpAny _ A.in1 (ret Value.none) _ _ s';refine aF (hR s' (hm.mono Hq) ?_);obtain⟨o,es,ep,t,ho,agv⟩:=hS;rw[hn,List.take_length] at agv;exact⟨o,es,ep,t,hm.heap S _ hSw ho,agv⟩
 |succ k ih=>
  intro i s hk hi u7 hf hS hR;have e7:i<n:=by exact Tz hk
  refine codeAny_builtin F.entry_set_update_loop ?_;rw[Around.under_plainId F.plain_set_update_loop _];show wpAny _ A.in1 (pyNext (.ref I) >>= _) _ _ s;refine ak (W.item i s _ _ e7 u7 λ v s' hP Y4 hm=>?_);refine aI (P5 i v hP) λ x hxi r=>?_;have Y5:=hx x (dH hxi);have J2:=apart s s' hm hf;have N6:SG w Φ s'.heap S (dO [] (xs.take i)):=by
   obtain⟨o,es,ep,tb,ho,agv⟩:=hS;exact⟨o,es,ep,tb,hm.heap S _ hSw ho,agv⟩
  show wpAny _ A.in1 (holding [v] (setAdd S v) >>= _) _ _ s';refine ak (eD ?_);unfold setAdd;refine eD ?_;refine ak (K8 r Y5.hk J2 (by have:=Y5.dp;simp only[];exact SJ hu this) λ tk htk=>?_);have P6:=Bf xs i;refine P0 (s:={ s' with toks:=tk}) N6 J2 (l6 S dC) r Y5 (by simp only[];exact B1 (d:=21) hu rfl) (by exact M0 P6 hb) λ b h' mA hS2=>?_;rw[←zh xs hxi] at hS2;have hf2:∀a o,Φ a=some o->h'.get? a=some o:=λ a o e=>by
   rw[mA.2 a (λ q:a=S=>by have:=l6 S dC;rw[←q,e] at this;cases this)];exact J2 a o e
  refine aF ⟨plainId_quiet F.plain_set_update_loop _,ih (i+1) _ (by exact congrArg Nat.pred hk) e7 (W.frame _ s' _ _ Y4 htk λ b hb o e=>?_) hf2 hS2 λ Kn Y6 Y7=>?_⟩
  .rw[mA.2 b (λ h:b=S=>hSf (by rw[←h];exact hb))];exact e
  .refine hR Kn (Moved.trans W.gtrans ((hm.mono Hq).then_heap htk λ b o hb e=>?_) Y6) Y7;rw[mA.2 b (λ h:b=S=>hb (by rw[h];exact dC))];exact e
theorem Hr{w:World}{Φ:Fz}(led:Bool){h:Heap}(ho:h.get? S=some { cls:=.type "set",dict:=none,data:=.set #[] 0 (.fresh 0 0 led)}):SG w Φ h S []:=by
 refine⟨_,#[],0,.fresh 0 0 led,ho,?_⟩;exact{ cls:=rfl,dct:=rfl,slt:=rfl,data:=rfl,tab:=⟨.inl rfl,rfl,by simp[SetTable.fresh],by simp[SetTable.fresh],rfl,λ i hi=>by simp[SetTable.fresh] at hi⟩,room:=by simp[SetTable.fresh],e1:=by simp,e2:=by simp,size:=rfl,hd:=by simp}
noncomputable def Hs(led:Bool):Obj:={ cls:=.type "set",dict:=none,data:=.set #[] 0 (.fresh 0 0 led)}
theorem Ht{w:World}{s:Shared}{Φ:Fz}{xs:List PyData}{led:Bool}{Q:Fin->Shared->Prop}(hh:A.handled=none)(hS:s.heap.get? S=some (Hs led))(hl:s.heap.get? l=some (dE vs m))(hlS:l≠S)(Y8:Φ S=none)(hr:dF Φ vs xs)(hf:∀a o,Φ a=some o->s.heap.get? a=some o)(hx:∀x∈xs,Hd x)(hu:A.units+40<cLine)(hb:(dO [] xs).length<18)(h:∀(h':Heap) (tk:Nat),SG w Φ h' S (dO [] xs)->(∀b o,b≠S->s.heap.get? b=some o->h'.get? b=some o)->Q (.done (.ret .none)) { s with heap:=h',toks:=tk}):wpAny (model prog w) A (Builtin.«set.__init__» ⟨[.ref S,.ref l],[]⟩) Q E s:=by
 have Y9:s.heap.get? l=some { cls:=.type "list",dict:=none,data:=.seq vs.toArray m,slots:=#[]}:=hl;have N6:s.heap.get? S=some { cls:=.type "set",dict:=none,data:=.set #[] 0 (.fresh 0 0 led)}:=hS;have hT:Shared.TypeIs s (.ref S) "set":=⟨_,hS,rfl⟩;have adq:=F.sub_list_set;have ads:=F.sub_list_frozenset;have eZ:(Value.type "list"==Value.type "dict")=false:=by decide
 have uY:s.heap.IsList l vs.toArray:=⟨_,Y9,rfl,m,rfl⟩;unfold Builtin.«set.__init__» noKeywords Builtin.Frozenset.updateFrom;generalize hPI:pyIter=PI
 wp_walk
 subst hPI;refine wpAny_pyIter_list uY ?_;refine ak (wpAny_runValue ?_);have hSs:=eE hS;have J3:=eE hl;have P5:∀(i:Nat) (v:Value),vs.toArray[i]?=some v->∃x,xs[i]?=some x/\RD Φ v x:=λ i v hv=>by
  have Az:vs[i]?=some v:=by simpa using hv
  have agw:=hr.length;have hi:i<xs.length:=by have:=(gi.mp Az).1;exact Nat.lt_of_lt_of_eq this agw
  refine aI (hr.get (gj hi)) λ v' e1 e2=>?_;rw[Az] at e1;cases e1;exact⟨_,gj hi,e2⟩
 refine Hp (Φ:=Φ) (xs:=xs) ((Walks.list (by simp[hh]) _ l (dI J3) vs.toArray).toS) S
  (λ k=>by
   rcases e8.mp k with e|e
   .exact absurd e (dI hSs)
   .exact hlS (fW.mp e).symm) (by have:=hr.length;simp;exact this) P5 ?l6 hx (by exact B1 hu rfl) hb (vs.toArray.size - 0) 0 _ (by exact rfl) (dJ _)
  ⟨⟨_,d5 _ rfl,rfl,rfl⟩,(uY.push _)⟩ (λ a o e=>dA _ (hf a o e)) (Hr led (dA _ hS)) ?hR
 case l6=>
  intro a ha;rcases e8.mp ha with rfl|ha
  .exact Y8
  .obtain rfl:=fW.mp ha;refine cq (Φ s.heap.objs.size) (λ e=>rfl) (λ o e=>absurd (eE (hf _ o e)) (Nat.lt_irrefl _))
 case hR=>
  intro s' hm N6;obtain⟨h',g',d',tk',os'⟩:=s';obtain rfl:g'=s.gens:=hm.gens;obtain rfl:d'=s.drawn:=hm.drawn;obtain rfl:os'=s.os:=hm.os;refine aF (aF (h h' tk' N6 λ b o hb e=>hm.heap b o (λ k=>?_) (dA _ e)));rcases e8.mp k with e'|e'
  .exact hb e'
  .exact absurd (fW.mp e') (dI (eE e))
def IP(w:World)(Φ:Fz)(s:Shared)(ds:List PyData)(r:Value)(bB:Shared):Prop:=r=.none/\∃h' tk,bB={ s with heap:=h',toks:=tk}/\SG w Φ h' s.heap.objs.size ds/\(∀b o,s.heap.get? b=some o->h'.get? b=some o)
set_option maxHeartbeats 3200000 in
theorem Hu{w:World}{s:Shared}{Φ:Fz}{xs:List PyData}(hh:A.handled=none)(hl:s.heap.get? l=some (dE vs m))(hr:dF Φ vs xs)(hf:∀a o,Φ a=some o->s.heap.get? a=some o)(hx:∀x∈xs,Hd x)(hu:A.units+50<cLine)(hb:(dO [] xs).length<18)(h:∀(h':Heap) (tk:Nat),SG w Φ h' s.heap.objs.size (dO [] xs)->(∀b o,s.heap.get? b=some o->h'.get? b=some o)->Q (.ref s.heap.objs.size) { s with heap:=h',toks:=tk}):wpAny (model prog w) A (call (.type "set") [.ref l]) Q E s:=by
 refine TZ F.called_set.mro λ c tl ady=>?_;have abR:=F.called_set.made;have Hq:=F.called_set.sub;have hlI:s.heap.IsList l vs.toArray:=⟨_,hl,rfl,m,rfl⟩;refine wpAny_call (codeAny_of_tree ?_);show wpAny _ _ (callAny (.type "set") _) _ _ _;refine aF ⟨Code.quiet_builtin _ (by decide +kernel),codeAny_builtin F.entry_type_call ?_⟩;rw[Around.under_plain (weight_type_call_type "set" [.ref l] []) rfl];have h1:=F.called_set.notType;have h2:=F.called_set.canCreate;have J4:=F.typeCall_set_1 (.ref l)
 repeat (any_goals (first|assumption|wp_step))
 refine codeAny_mono (code_set_new_1 (.ref l) (E:=E) (Q₁:=λ obj aL=>∃led:Bool,obj=.ref s.heap.objs.size/\aL={ s with heap:=s.heap.push (Hs led)}) λ led=>⟨led,rfl,rfl⟩) λ r aL Hv=>?_;cases r with
 |error e=>exact Hv
 |ok fl=>
  cases fl with
  |ret obj=>
   refine aI Hv λ led z2 z3=>?_;obtain rfl:=z2;have hS:aL.heap.get? s.heap.objs.size=some (Hs led):=by rw[z3];exact d5 _ rfl
   have hT:Shared.TypeIs aL (.ref s.heap.objs.size) "set":=⟨_,hS,rfl⟩;have hp:∀b o,s.heap.get? b=some o->aL.heap.get? b=some o:=λ b o e=>by rw[z3];exact dA _ e
   have hli:=F.called_set.init.lookup;have hbi:=F.called_set.init.bind (.ref s.heap.objs.size)
   repeat (any_goals (first|assumption|wp_step))
   refine codeAny_mono (codeAny_call_builtin (R:=wants (IP w Φ s (dO [] xs)) E) F.called_set.init.plain F.entry_set_init (check_set_init_1 hT (Ht (led:=led) (by simp[hh]) hS (hp _ _ hl) (dI (eE hl)) ?_ hr (λ a o e=>hp a o (hf a o e)) hx (by simp only[];exact B1 (d:=42) hu rfl) hb ?_))) λ jq bB Hw=>?_
   .exact cq (Φ s.heap.objs.size) (λ e=>rfl) (λ o e=>absurd (eE (hf _ o e)) (Nat.lt_irrefl _))
   .subst z3;exact λ h' tk N6 hk=>⟨rfl,h',tk,rfl,N6,λ b o e=>hk b o (dI (eE e)) (hp b o e)⟩
   .cases jq with
    |error e=>exact Hw
    |ok Vi=>
     cases Vi with
     |ret r=>
      refine F8 Hw λ z1 h' tk z4 N6 l7=>?_;obtain rfl:=z1;obtain rfl:=z4
      repeat (any_goals (first|assumption|wp_step))
      exact h _ _ N6 l7
     |_=>exact Hw.elim
  |_=>exact Hv.elim
theorem vl{w:World}{s:Shared}{Φ:Fz}{ds:List PyData}(G:SG w Φ s.heap S ds)(h:∀k t,Q (.int ds.length t) { s with toks:=k}):wpAny (model prog w) A (call (.builtin "len") [.ref S]) Q E s:=by
 obtain⟨o,es,ep,t,ho,G⟩:=G;have Hm:((es.size:Int))<2 ^ 63:=by
  haveI:=G.room;haveI hm:=G.tab.mask;unfold kl at hm;haveI:es.size<20:=by exact Nat.lt_of_mul_lt_mul_right (a:=5) (iI this (by rcases hm with q|q<;>rw[q]<;>decide))
  exact Int.lt_of_lt_of_le (Int.ofNat_lt.mpr this) (by decide)
 haveI:=G.size;refine call_len_set ho ⟨G.cls,G.dct,G.slt⟩ G.data G.fits Hm ?_;haveI:=h (s.toks+1+1) (s.toks+1);rw[←G.size] at this;exact this
theorem Ld(hx:hk x=true)(hd:∀d∈ds,hk d=true):wU ds x=sC ds x:=by
 unfold wU sC;have:(ds.any λ d=>PyData.eqv d x)=true↔x∈ds:=by
  rw[List.any_eq_true];constructor
  .rintro⟨d,h1,h2⟩;rw[(tW (hd d h1) hx).mp h2] at h1;exact h1
  .intro h;exact⟨x,h,(tW hx hx).mpr rfl⟩
 by_cases q:x∈ds
 .rw[if_pos q,if_pos (this.mpr q)]
 .rw[if_neg q,if_neg (λ z=>q (this.mp z))]
theorem CL:∀(xs ds:List PyData),(∀x∈xs,hk x=true)->(∀d∈ds,hk d=true)->xs.foldl wU ds=dO ds xs
 |[],ds,_,_=>rfl
 |x::xs,ds,h,hd=>by
  haveI h1:=h x dC;show xs.foldl wU (wU ds x)=dO (sC ds x) xs;rw[Ld h1 hd];refine CL xs _ (λ y hy=>h y (d8 _ hy)) λ d q=>?_;by_cases z:x∈ds
  .rw[xn z] at q;exact hd d q
  .rw[qo z] at q;rcases bX.mp q with q|q
   .exact hd d q
   .rw[fW.mp q];exact h1
theorem Ea(h:ahg x=true):∃xs,x=.tuple xs:=by
 cases x<;>first|exact⟨_,rfl⟩|exact Bool.noConfusion h
theorem Bg{W:Wd}{C:aG}{sc:Sc}(B:agY W){id R1:Str}{px Za pos pos':Pos}(hg:sc.c6 id=true)(GG:id=("len" : Str))(R2:sc.c6 R1=true)(Zb:R1=("set" : Str))(u7:agB x=true)(ha:cS W n C sc a x):cS W n C sc (.j0 a) (.Call (.Name id px) [.Call (.Name R1 Za) [x] [] pos'] [] pos):=by
 intro A e0 af L env s Φ ρ σ fr cx D;haveI hv:=((Sc.bj hg)).1;haveI hd:=((Sc.bj hg)).2;haveI Az:=((Sc.bj R2)).1;haveI vE:=((Sc.bj R2)).2;subst GG;subst Zb;rw[AI];refine au.of (λ Q E h=>cX (eJ B cx D.inv hv B.len.1 B.len.2 hd (by rw[fN rfl];exact oD (cX (eJ B cx D.inv Az B.set.1 B.set.2 vE (by rw[fN u7];exact lF h)))))) (au.seq (ha cx D) λ v y aM Φ' h' k e' I S r=>au.opt λ d hd=>au.opt λ z hz=>au.ok λ Q E hQ=>?_);have rt:=I.aE r hd;cases d with
 |list xs=>
  haveI hc:=((dr hz)).1;haveI z2:=((dr hz)).2;obtain rfl:=z2;refine dd (cf hc) λ hc R3=>?_;haveI u9:=((cf hc)).1;haveI h4:=((cf hc)).2;haveI R3:=kz R3;have hx:∀x∈xs,Hd x:=λ x hx=>by
   haveI q:=fX.mp u9 x hx;refine dd (cf q) λ q q3=>?_;haveI q1:=((cf q)).1;haveI q2:=((cf q)).2;exact⟨Ea q1,q2,kz q3⟩
  haveI ho:Ca xs=dO [] xs:=CL xs [] (λ x q=>(hx x q).hk) λ _ q=>nomatch q;refine bw (rt.list I.fe) λ l vs m z4 hl rs=>?_;obtain rfl:=z4;have hu:=jr cx;rw[ho] at R3 hQ;refine Hu (s:={ s with heap:=h',toks:=k}) cx.handled hl rs I.fe hx (by exact B1 hu rfl) R3 λ av tk G N7=>?_;exact vl (s:={ s with heap:=av,toks:=tk}) G λ k₂ t=>hQ _ Φ' av k₂ (I.ext N7) (agA.bo N7) (RD.int _ _)
 |_=>cases hz
end
section
variable {W:Wd} {n:Nat} {C:aG} {sc:Sc}
inductive KV(Φ:Fz)(ρ:List Addr):List Str->List (Value×Value)->List V->Prop
 |nil:KV Φ ρ [] [] []
 |cons {k:Str} {t:Tok} {v:Value} {y:V} {ks:List Str} {ps:List (Value×Value)} {ys:List V}:VR Φ ρ v y->KV Φ ρ ks ps ys->KV Φ ρ (k::ks) ((.str k t,v)::ps) (y::ys)
theorem KV.mono(h:∀a o,Φ a=some o->Φ' a=some o)(x:KV Φ ρ ks ps ys):KV Φ' ρ ks ps ys:=by
 induction x with
 |nil=>exact .nil
 |cons r _ ih=>exact .cons (VR.mono h r) ih
def R4(keys:List (Option Expr))(values:List Expr)(env:Env)(pos:Pos):List (Sem Value×Sem Value):=
 match keys,values with
 |some k::ks,v::vs=>(eval k env,do let x ←eval v env;standAt pos;pure x)::R4 ks vs env pos
 |_,_=>[]
inductive zi(W:Wd)(n:Nat)(C:aG)(sc:Sc):List Str->List E->List (Option Expr)->List Expr->Prop
 |nil:zi W n C sc [] [] [] []
 |cons {k:Str} {x:E} {ke ve:Expr} {ks:List Str} {xs:List E} {vX:List (Option Expr)} {ym:List Expr}:cS W n C sc (.con (.str k)) ke->cS W n C sc x ve->zi W n C sc ks xs vX ym->zi W n C sc (k::ks) (x::xs) (some ke::vX) (ve::ym)
theorem zi.shape(h:zi W n C sc ks xs vX ym)(env:Env)(pos:Pos):(evalEachOpt vX env).zip ((evalEach ym env).map λ v=>do let x ←v;standAt pos;pure x)=(R4 vX ym env pos).map (λ p=>(some p.1,p.2))/\(R4 vX ym env pos).length=ks.length:=by
 induction h with
 |nil=>exact⟨rfl,rfl⟩
 |cons _ _ _ ih=>
  refine⟨?_,congrArg (·+1) ih.2⟩;simp only[arm_evalEachOpt_cons,arm_evalEach_cons,List.map_cons,List.zip_cons_cons,ih.1];rfl
theorem Hx(h:zi W n C sc ks xs vX ym):∀{A:Around} {e0:Env} {af:List Env} {L:Addr} {env:Env} {s:Shared} {Φ:Fz} {ρ:List Addr} {σ:ae} {fr:agq},Cx W n A e0 af L env sc->Dy W Φ ρ σ (e0::af) env sc.vars fr s.heap->pY W A (e0::af) L ρ (evalPairs (R4 vX ym env pos)) Φ s (fL W.G C xs fr σ) (λ Φ ps ys=>KV Φ ρ ks ps ys):=by
 induction h with
 |nil=>
  intro A e0 af L env s Φ ρ σ fr cx D;exact au.of (P':=λ Q E s=>Q [] s) (λ Q E h=>evalPairs_nil h) (au.ok λ Q E hQ=>hQ _ Φ s.heap s.toks D.inv (.refl ..) .nil)
 |cons hk hx _ ih=>
  rename_i k x ke ve ks xs vX ym _;intro A e0 af L env s Φ ρ σ fr cx D;show pY W A (e0::af) L ρ _ Φ s ((evE W.G C (.con (.str k)) fr σ).bind λ v1 σ=>(evE W.G C x fr σ).bind λ v σ=>(fL W.G C xs fr σ).bind λ vs σ=>.ok (v::vs) σ) _;refine au.of (P':=λ Q E s=>wpAny (model W.prog W.w) A (eval ke env) (λ kv aL=>wpAny (model W.prog W.w) A (eval ve env) (λ vv bB=>wpAny (model W.prog W.w) A (evalPairs (R4 vX ym env pos)) (λ ps dj=>Q ((kv,vv)::ps) dj) E bB) E aL) E s)
   (λ Q E h=>evalPairs_cons (cj h (λ kv aL av=>ak (cj av (λ vv bB aQ=>ak (gH (aF aQ))) λ _ _ q=>q)) λ _ _ q=>q)) ?_
  refine au.seq (hk cx D) λ v1 y1 aX cJ av k₁ UK du aW dY=>?_;haveI hW:=D.step aW du;cases UK;obtain⟨_,rfl,_⟩:=RD.i dY;refine au.seq (hx cx hW) λ v y dG ff aQ k₂ UL cZ cT jq=>?_;haveI jF:=hW.step cT cZ;refine au.seq (P2:=λ ps Q E dj=>Q ((_,v)::ps) dj) (ih cx jF) λ ps ys gc d6 aO cM UM fE bF q6=>?_;exact au.ok λ Q E hQ=>hQ _ d6 aO cM fE (.refl ..) (.cons (VR.mono bF.ext jq) q6)
theorem KV.Le(x:KV Φ ρ ks ps ys):Carries (strKind W.prog W.w) ps (ks.zip (ps.map (·.2))):=by
 induction x with
 |nil=>trivial
 |cons r _ ih=>rename_i k t v y ks ps ys _;exact⟨agI k t,rfl,ih⟩
theorem tY:∀(fc acc:List (Str×Value)),w4 (fc.map (·.1))=true->(∀p∈fc,acc.any (λ kv=>kv.1=p.1)=false)->merged acc fc=acc++fc
 |[],acc,_,_=>by simp[merged]
 |(k,v)::r,acc,hn,ha=>by
  refine dd (cf hn) λ h1 h2=>?_;haveI e:stored acc k v=acc++[(k,v)]:=by
   unfold stored;rw[if_neg (by rw[ha (k,v) dC];exact Bool.false_ne_true)]
  show merged (stored acc k v) r=_;rw[e,tY r _ h2 λ p hp=>?_]
  .simp
  .haveI eZ:k≠p.1:=λ q=>by
    have:(r.map (·.1)).contains k=true:=by
     refine bO (q ..) ?_;exact List.elem_eq_true_of_mem (gm.mpr ⟨p,hp,rfl⟩)
    haveI h1:=this▸h1;exact Bool.noConfusion h1
   simp only[List.any_append,ha p (d8 _ hp)];simp[eZ]
theorem KV.look(x:KV Φ ρ ks ps ys):∀{ds:List PyData} {k:Str} {d:PyData},fQ ys=some ds->(ks.zip ds).lookup k=some d->∃v,valueAt (ks.zip (ps.map (·.2))) k=some v/\RD Φ v d:=by
 induction x with
 |nil=>intro ds k d h1 h2;obtain rfl:=bD h1;cases h2
 |cons r _ ih=>
  rename_i k' t v y ks ps ys _;intro ds k d h1 h2;cases y with
  |loc=>cases h1
  |d y=>
   refine aI (lx h1) λ ds' h3 z3=>?_;obtain rfl:=z3;rw[List.zip_cons_cons,List.lookup_cons] at h2;simp only[List.map_cons,List.zip_cons_cons];refine mH (k==k') (λ hq=>?_) (λ hq=>?_)
   ·
    haveI h2:=hq▸h2;obtain rfl:=bD h2;haveI e:k=k':=beq_iff_eq.mp hq;refine bO e ?_;exact⟨v,by simp[valueAt],r⟩
   ·
    haveI h2:=hq▸h2;have eZ:¬(k'=k):=λ e=>by subst e;rw[beq_self_eq_true] at hq;cases hq
    refine aI (ih h3 h2) λ v' e r'=>?_;refine⟨v',?_,r'⟩;unfold valueAt at e ⊢;rw[List.find?_cons_of_neg (by simpa using eZ)];exact e
theorem KV.len(x:KV Φ ρ ks ps ys):ps.length=ks.length:=by
 induction x with
 |nil=>rfl
 |cons _ _ ih=>exact congrArg (·+1) ih
theorem Hy(B:agY W)(PG:jn ke=true)(h4:ks.length<=4)(h0:ks≠[])(hn:w4 ks=true)(hp:zi W n C sc ks vs vX ym)(hk:cS W n C sc k ke):cS W n C sc (.pick ks vs k) (.Subscript (.Dict vX ym dp) ke pos):=by
 intro A e0 af L env s Φ ρ σ fr cx D;rw[Gm];intro Q E cG fg fk;haveI hsh:=((hp.shape env dp)).1;haveI Xw:=((hp.shape env dp)).2;refine Subscript_ (wpAny_Dict_pairs (knd:=strKind W.prog W.w) (pairs:=R4 vX ym env dp) hsh (λ q=>h0 (List.length_eq_zero_iff.mp (by simp only[←Xw,q];rfl))) (by exact s6 Xw h4 rfl) ?_);haveI gP:s.heap.get? s.heap.objs.size=none:=Heap.br _;haveI kk:=bY s.heap { cls:=.type "dict",data:=.dict #[]};have Lf:agA ρ (cK (e0::af)) Φ s.heap Φ (s.heap.push { cls:=.type "dict",data:=.dict #[]}):=agA.bo kk;have fJ:=D.step Lf (D.inv.ext kk);have ap:=Dy.alive (sc:=sc) D gP;haveI oC:∃o,(s.heap.push { cls:=.type "dict",data:=.dict #[]}).get? s.heap.objs.size=some o:=⟨_,d5 _ rfl⟩;refine Hx (pos:=dp) hp (s:={ s with heap:=s.heap.push { cls:=.type "dict",data:=.dict #[]}}) cx fJ _ _ ?_ ?_ ?_
 .intro q;haveI cG:=q▸cG;exact cG rfl
 .intro ps ys aX cJ av k₁ oU du aW dY;rw[oU] at cG fg fk;rw[Res.ax] at cG;simp only[Res.ax] at fg fk;cases w9:fQ ys with
  |none=>haveI cG:=w9▸cG;exact absurd rfl cG
  |some ds=>
  rw[w9] at cG fg fk;rw[Res.bx,Res.ax] at cG;simp only[Res.bx,Res.ax] at fg fk;refine⟨ks.zip (ps.map (·.2)),dY.Le,(Heap.DictOf.new (knd:=strKind W.prog W.w) s.heap).at λ o e=>aW.kp.keep _ o ap.2.2.1 ap.2.2.2 e,λ aQ JV mA=>?_⟩;haveI hkl:ks.length<=(ps.map (·.2)).length:=by simp only[bR,dY.len];exact cy _
  rw[tY _ [] (by refine bO (List.map_fst_zip hkl ..) ?_;exact hn) (λ _ _=>rfl),List.nil_append] at JV;letI Zc:=(oC).choose;haveI Vj:=(oC).choose_spec;haveI Zd:cJ s.heap.objs.size=none:=(aW.fresh _ _ Vj).trans (D.inv.bp gP);haveI hW:=fJ.step aW du;haveI jF:Dy W cJ ρ aX (e0::af) env sc.vars fr aQ:=hW.other ap Zd λ a o eZ e=>(mA.2 a eZ).trans e;have zj:agA ρ (cK (e0::af)) Φ s.heap cJ aQ:=(Lf.trans aW).sQ gP λ a o eZ e=>(mA.2 a eZ).trans e;refine hk (s:={ s with heap:=aQ,toks:=k₁+ps.length}) cx jF _ _ ?_ ?_ ?_
  .intro q;haveI cG:=q▸cG;exact cG rfl
  .intro vi yi gc d6 aO cM kg fE bF q6;rw[kg] at cG fg;rw[Res.ax] at cG;simp only[Res.ax] at fg;cases hy:aE gc yi with
   |none=>haveI cG:=hy▸cG;exact absurd rfl cG
   |some y=>
   rw[hy] at cG fg;rw[Res.bx,Res.ax] at cG;simp only[Res.bx,Res.ax] at fg;cases hr:oO (ks.zip ds) y with
   |none=>haveI cG:=hr▸cG;exact absurd rfl cG
   |some r=>
   rw[hr] at fg;haveI rt:=fE.aE q6 hy;cases y with
   |str P7=>
    refine aI rt.str λ t z2 _=>?_;obtain rfl:=z2;letI v:=((dY.look w9 hr)).choose;haveI hv:=(((dY.look w9 hr)).choose_spec).1;haveI rv:=(((dY.look w9 hr)).choose_spec).2;haveI Vk:=JV.at λ o e=>bF.kp.keep _ o ap.2.2.1 ap.2.2.2 e;exact mO (s:={ s with heap:=aO,toks:=cM}) (.inl ⟨_,rfl⟩) Vk.mapOf.typeIs slot_dict_getitem.lookup (wpAny_getItem_of (s:={ s with heap:=aO,toks:=cM}) (knd:=strKind W.prog W.w) (agI _ t) Vk.mapOf hv (fg v (.d r) gc d6 aO _ rfl fE (zj.trans bF) (RD.mono bF.ext rv))) (gw PG _ _)
   |_=>cases hr
  .intro e' aM Φ' h' k kg I' S' T';haveI fk:=kg▸fk;exact fk e' aM Φ' h' k rfl I' (zj.trans S') (T'.back zj.kp.alive)
 .intro e' aM Φ' h' k kg I' S' T';haveI fk:=kg▸fk;exact fk e' aM Φ' h' k rfl I' (Lf.trans S') (T'.back Lf.kp.alive)
end
noncomputable def CM(a b c:Value):Obj:={ cls:=.type "tuple",data:=.seq #[a,b,c]}
noncomputable def xo(n:Nat)(f:Value):Obj:={ cls:=.type "zip",dict:=none,data:=.fields #[f,.bool false,.bool false,.ref (n+3),.ref (n+4)],slots:=#[]}
theorem nn{a b:Nat}(h:a<b\/b<a):(show Addr from a)≠(show Addr from b):=λ q=>by have q:a=b:=q;exact h.elim (λ l=>dI l q) (λ l=>Nat.ne_of_gt l q)
structure Z3(h:Heap)(n:Nat)(f:Value):Prop where
 z:h.get? (n+5)=some (xo n f)
 ti:h.get? (n+3)=some (CM (.ref n) (.ref (n+1)) (.ref (n+2)))
 to:∃a b c,h.get? (n+4)=some (CM a b c)
section
variable {prog:Program}{w:World}{A:Around}{E Q:Value->Shared->Prop}{k n:Nat}{xs ys zs:Array Value}
theorem P8{s:Shared}{Q:Unit->Shared->Prop}(hT:s.heap.get? T=some (CM a b c))(h:∀h',h'.get? T=some { cls:=.type "tuple",data:=.seq ((#[a,b,c]:Array Value).setIfInBounds k x)}->Heap.SameBut T s.heap h'->Q () { s with heap:=h'}):wpAny (model prog w) A (updateSeq T (·.setIfInBounds k x)) Q E s:=by
 refine wpAny_updateSeq hT rfl (h _ ?_ (Heap.SameBut.update ..));rw[Heap.get?_update_self _ hT rfl];simp[Obj.mapSeq,CM]
theorem Eb{s:Shared}{l1 l2 l3:Nat}(Z:Z3 s.heap n .none)(b1:l1<n)(b2:l2<n)(b3:l3<n)(h1:s.heap.IsListIter n l1 k)(h2:s.heap.IsListIter (n+1) l2 k)(h3:s.heap.IsListIter (n+2) l3 k)(uY:s.heap.IsList l1 xs)(N8:s.heap.IsList l2 ys)(P9:s.heap.IsList l3 zs)(hx:xs[k]?=some x)(hy:ys[k]?=some y)(hz:zs[k]?=some z)(hQ:∀h',Z3 h' n (rawInt s.heap.objs.size)->h'.IsListIter n l1 (k+1)->h'.IsListIter (n+1) l2 (k+1)->h'.IsListIter (n+2) l3 (k+1)->h'.get? s.heap.objs.size=some (CM x y z) ->
   (∀(c:Nat) o,¬(n<=c/\c<=n+5)->s.heap.get? c=some o->h'.get? c=some o)->Q (.ref s.heap.objs.size) { s with heap:=h'}):wpAny (model prog w) A (Builtin.«zip.__next__» ⟨[.ref (n+5)],[]⟩) (λ fin s'=>∃v,fin=.done (.ret v)/\Q v s') E s:=by
 obtain⟨Ec,R5,a,b,c,Xx⟩:=Z;show wpAny _ _ (field (.ref (n+5)) 2 >>= _) _ _ _;refine ak (wpAny_field Ec rfl (x:=.bool false) rfl ?_);refine ak (wpAny_field Ec rfl (x:=.ref (n+3)) rfl ?_);refine ak (wpAny_seqItems R5 rfl ?_);refine ak ?_;refine ak (wpAny_field Ec rfl (x:=.none) rfl (aF ?_));refine ak (wpAny_rule ?_);refine ak (wpAny_field Ec rfl (x:=.ref (n+4)) rfl ?_);refine ak (wpAny_setField_rec Ec (by simp) λ av tZ dh=>?_);replace tZ:av.get? (n+5)=some (xo n .ellipsis):=tZ;refine ak ?_;simp only[List.zipIdx_cons,List.zipIdx_nil,List.forIn_cons,List.forIn_nil]
 -- the first
 refine ak (ak (wpAny_onRaise ?_));refine ak (wpAny_nextOf_list_item (h1.extBut dh.extBut (nn (by exact pN rfl))) (uY.extBut dh.extBut (nn (by exact rN b1))) hx λ aQ Vl gx=>aF ?_);haveI N9:aQ.get? (n+4)=some (CM a b c):=gx.extBut _ _ (nn (by exact vz rfl)) (dh.extBut _ _ (nn (by exact dK rfl)) Xx);refine ak (wpAny_seqItems N9 rfl ?_);refine ak (P8 N9 λ aO Hz jP=>?_);replace Hz:aO.get? (n+4)=some (CM x b c):=Hz;refine ak (wpAny_letGo (aF ?_))
 -- the second
 refine ak (ak (wpAny_onRaise ?_));refine ak (wpAny_nextOf_list_item (((h2.extBut dh.extBut (nn (by exact dK rfl))).extBut gx.extBut (nn (by exact vz rfl))).extBut jP.extBut (nn (by exact dK rfl)))
  (((N8.extBut dh.extBut (nn (by exact rN b2))).extBut gx.extBut (nn (by exact MV b2))).extBut jP.extBut (nn (by exact rN b2))) hy λ gz Vm t4=>aF ?_)
 haveI Oa:gz.get? (n+4)=some (CM x b c):=t4.extBut _ _ (nn (by exact dK rfl)) Hz;refine ak (wpAny_seqItems Oa rfl ?_);refine ak (P8 Oa λ iQ HA jN=>?_);replace HA:iQ.get? (n+4)=some (CM x y c):=HA;refine ak (wpAny_letGo (aF ?_))
 -- the abS
 refine ak (ak (wpAny_onRaise ?_));refine ak (wpAny_nextOf_list_item (((((h3.extBut dh.extBut (nn (by exact dK rfl))).extBut gx.extBut (nn (by exact vz rfl))).extBut jP.extBut (nn (by exact dK rfl))).extBut t4.extBut (nn (by exact dK rfl))).extBut jN.extBut (nn (by exact dK rfl)))
  (((((P9.extBut dh.extBut (nn (by exact rN b3))).extBut gx.extBut (nn (by exact MV b3))).extBut jP.extBut (nn (by exact rN b3))).extBut t4.extBut (nn (by exact rN b3))).extBut jN.extBut (nn (by exact rN b3))) hz λ GL Vn vY=>aF ?_)
 haveI Ob:GL.get? (n+4)=some (CM x y c):=vY.extBut _ _ (nn (by exact dK rfl)) HA;refine ak (wpAny_seqItems Ob rfl ?_);refine ak (P8 Ob λ q9 CN vZ=>?_);replace CN:q9.get? (n+4)=some (CM x y z):=CN;refine ak (wpAny_letGo (aF (aF ?_)));refine ak (wpAny_seqItems CN rfl ?_);refine ak (wpAny_newTuple ?_);have qS:q9.objs.size=s.heap.objs.size:=by simp only[vZ.1,vY.1,jN.1,t4.1,jP.1,gx.1,dh.1]
 have up7:∀c o,c≠n+5->c≠n+4->c≠n->c≠n+1->c≠n+2->s.heap.get? c=some o->q9.get? c=some o:=λ c o c1 c2 c3 c4 c5 e=>
  vZ.extBut _ _ c2 (vY.extBut _ _ c5 (jN.extBut _ _ c2 (t4.extBut _ _ c4 (jP.extBut _ _ c2 (gx.extBut _ _ c3 (dh.extBut _ _ c1 e))))))
 have Vo:q9.get? (n+5)=some (xo n .ellipsis):=vZ.extBut _ _ (nn (by exact dK rfl)) (vY.extBut _ _ (nn (by exact dK rfl)) (jN.extBut _ _ (nn (by exact dK rfl)) (t4.extBut _ _ (nn (by exact dK rfl)) (jP.extBut _ _ (nn (by exact dK rfl)) (gx.extBut _ _ (nn (by exact vz rfl)) tZ)))));haveI e7:n+5<q9.objs.size:=eE Vo;refine ak ?_;haveI Zf:(q9.push (CM x y z)).get? (n+5)=some (xo n .ellipsis):=dA _ Vo;refine ak (wpAny_setField_rec Zf (by simp) λ Qa HB Oc=>?_);replace HB:Qa.get? (n+5)=some (xo n (rawInt q9.objs.size)):=HB;refine wpAny_setField_rec HB (by simp) λ Lg CO Od=>?_;replace CO:Lg.get? (n+5)=some (xo n (rawInt q9.objs.size)):=CO;have up:∀c o,c≠n+5->q9.get? c=some o->Lg.get? c=some o:=λ c o c1 e=>Od.extBut _ _ c1 (Oc.extBut _ _ c1 (dA _ e));haveI hT:Lg.get? q9.objs.size=some (CM x y z):=Od.extBut _ _ (Nat.ne_of_gt e7) (Oc.extBut _ _ (Nat.ne_of_gt e7) (d5 _ rfl));rw[qS] at CO hT;refine aF ⟨_,rfl,?_⟩;refine bO (qS ..) ?_;exact hQ Lg ⟨CO,up _ _ (nn (by exact dK rfl)) (up7 _ _ (nn (by exact dK rfl)) (nn (by exact dK rfl)) (nn (by exact vz rfl)) (nn (by exact dK rfl)) (nn (by exact dK rfl)) R5),x,y,z,up _ _ (nn (by exact dK rfl)) CN⟩ ((((((Vl.extBut jP.extBut (nn (by exact pN rfl))).extBut t4.extBut (nn (by exact pN rfl))).extBut jN.extBut (nn (by exact pN rfl))).extBut vY.extBut (nn (by exact pN rfl))).extBut vZ.extBut (nn (by exact pN rfl))).at λ o e=>up _ o (nn (by exact pN rfl)) e) ((((Vm.extBut jN.extBut (nn (by exact dK rfl))).extBut vY.extBut (nn (by exact dK rfl))).extBut vZ.extBut (nn (by exact dK rfl))).at λ o e=>up _ o (nn (by exact dK rfl)) e) ((Vn.extBut vZ.extBut (nn (by exact dK rfl))).at λ o e=>up _ o (nn (by exact dK rfl)) e) hT
  λ(c:Nat) o hc e=>up c o (nn (by exact rO hc rfl)) (up7 c o (nn (by exact rO hc rfl)) (nn (by exact rO hc rfl)) (nn (by exact MW hc)) (nn (by exact rO hc rfl)) (nn (by exact rO hc rfl)) e)
theorem HC{s:Shared}{l1:Nat}{Q:PySem.Fin->Shared->Prop}(hh:A.handled=none)(Z:Z3 s.heap n .none)(b1:l1<n)(h1:s.heap.IsListIter n l1 k)(uY:s.heap.IsList l1 xs)(hx:xs[k]?=none)(hE:∀h' e,(∀(c:Nat) o,¬(n<=c/\c<=n+5)->s.heap.get? c=some o->h'.get? c=some o)->(∃o,h'.get? e=some o/\o.cls=.type "StopIteration")->E (.ref e) { s with heap:=h'}):wpAny (model prog w) A (Builtin.«zip.__next__» ⟨[.ref (n+5)],[]⟩) Q E s:=by
 obtain⟨Ec,R5,a,b,c,Xx⟩:=Z;show wpAny _ _ (field (.ref (n+5)) 2 >>= _) _ _ _;refine ak (wpAny_field Ec rfl (x:=.bool false) rfl ?_);refine ak (wpAny_field Ec rfl (x:=.ref (n+3)) rfl ?_);refine ak (wpAny_seqItems R5 rfl ?_);refine ak ?_;refine ak (wpAny_field Ec rfl (x:=.none) rfl (aF ?_));refine ak (wpAny_rule ?_);refine ak (wpAny_field Ec rfl (x:=.ref (n+4)) rfl ?_);refine ak (wpAny_setField_rec Ec (by simp) λ av tZ dh=>?_);replace tZ:av.get? (n+5)=some (xo n .ellipsis):=tZ;refine ak ?_;refine ak (ak (wpAny_onRaise ?_));refine ak (wpAny_nextOf_list_end hh (h1.extBut dh.extBut (nn (by exact pN rfl))) (uY.extBut dh.extBut (nn (by exact rN b1))) hx λ aQ e gx he=>?_);obtain⟨oe,Xy,hce⟩:=he;have Oe:aQ.get? (n+5)=some (xo n .ellipsis):=gx _ _ (nn (by exact vz rfl)) tZ;have hez:e≠n+5:=λ x=>by subst x;haveI Xy:=Oe▸Xy;obtain rfl:=bD Xy;simp[xo] at hce
 exact wpAny_setField_rec Oe (by simp) λ aO _ jP=>hE aO e (λ(c:Nat) o hc x=>jP.extBut _ _ (nn (by exact rO hc rfl)) (gx _ _ (nn (by exact MW hc)) (dh.extBut _ _ (nn (by exact rO hc rfl)) x))) ⟨oe,jP.extBut _ _ hez Xy,hce⟩
theorem Ed{s:Shared}{Q:Option Value->Shared->Prop}(Z:Z3 s.heap n .none)(b1:l1<n)(b2:l2<n)(b3:l3<n)(h1:s.heap.IsListIter n l1 k)(h2:s.heap.IsListIter (n+1) l2 k)(h3:s.heap.IsListIter (n+2) l3 k)(uY:s.heap.IsList l1 xs)(N8:s.heap.IsList l2 ys)(P9:s.heap.IsList l3 zs)(hx:xs[k]?=some x)(hy:ys[k]?=some y)(hz:zs[k]?=some z)(hQ:∀h',Z3 h' n (rawInt s.heap.objs.size)->h'.IsListIter n l1 (k+1)->h'.IsListIter (n+1) l2 (k+1)->h'.IsListIter (n+2) l3 (k+1)->h'.get? s.heap.objs.size=some (CM x y z) ->
   (∀(c:Nat) o,¬(n<=c/\c<=n+5)->s.heap.get? c=some o->h'.get? c=some o)->Q (some (.ref s.heap.objs.size)) { s with heap:=h'}):wpAny (model prog w) A (pyNext (.ref (n+5))) Q E s:=by
 haveI hT:s.TypeIs (.ref (n+5)) "zip":=⟨_,Z.z,rfl⟩;exact ak (wpAny_attempt (wpAny_callSpecial?_slot (name:=Str.ofString "__next__") hT F.slot_zip_next
  (wpAny_call_entry F.slot_zip_next hT F.entry_zip_next
   (Eb Z b1 b2 b3 h1 h2 h3 uY N8 P9 hx hy hz λ h' a1 a2 a3 a4 a5 a6=>aF (hQ h' a1 a2 a3 a4 a5 a6)) (F.args_zip_next_1 _))))
theorem HD{s:Shared}{Q:Option Value->Shared->Prop}(hh:A.handled=none)(Z:Z3 s.heap n .none)(b1:l1<n)(h1:s.heap.IsListIter n l1 k)(uY:s.heap.IsList l1 xs)(hx:xs[k]?=none)(hQ:∀h',(∀(c:Nat) o,¬(n<=c/\c<=n+5)->s.heap.get? c=some o->h'.get? c=some o)->Q none { s with heap:=h'}):wpAny (model prog w) A (pyNext (.ref (n+5))) Q E s:=by
 haveI hT:s.TypeIs (.ref (n+5)) "zip":=⟨_,Z.z,rfl⟩;refine ak (wpAny_attempt (wpAny_callSpecial?_slot (name:=Str.ofString "__next__") hT F.slot_zip_next
  (wpAny_call_entry F.slot_zip_next hT F.entry_zip_next (HC hh Z b1 h1 uY hx λ h' e hk he=>?_) (F.args_zip_next_1 _))))
 obtain⟨o,ho,hc⟩:=he;refine ak (wpAny_isInstance (T:="StopIteration") (b:=true) ⟨o,ho,hc⟩ isSubtype_stop ?_);exact aF (hQ _ hk)
theorem Lh{s:Shared}{pos:Pos}{T:Nat}{Q:Unit->Shared->Prop}(Z:Z3 s.heap n (rawInt T))(hQ:∀h',Z3 h' n .none->Heap.SameBut (n+5) s.heap h'->Q () { s with heap:=h'}):wpAny (model prog w) A (letOwnedTupleGo (.Tuple elts x1 pos) (.ref (n+5)) (.ref T)) Q E s:=by
 obtain⟨Ec,R5,a,b,c,Xx⟩:=Z;refine wpAny_letOwnedTupleGo_zip (TI:=n+3) (TO:=n+4) Ec λ h' hz' lC=>hQ h' ⟨hz',lC.extBut _ _ (nn (by exact dK rfl)) R5,a,b,c,lC.extBut _ _ (nn (by exact dK rfl)) Xx⟩ lC
theorem v7{s:Shared}(Z:Z3 s.heap n f)(h:Q (.ref (n+5)) s):wpAny (model prog w) A (pyIter (.ref (n+5))) Q E s:=wpAny_pyIter_zip Z.z h
theorem Ee(a b c:Value):checkTypeCall "zip" ⟨[a,b,c],[]⟩=pure ():=by kernel_rfl
theorem HE(a b c:Value):checkBuiltinCall "zip.__new__" ⟨[.type "zip",a,b,c],[]⟩=pure ():=by kernel_rfl
theorem Vp(a b c d:Value):argsOk "object.__init__" ⟨[a,b,c,d],[]⟩:=by
 unfold argsOk;rw[signature?_of (id:="object.__init__") (n:=['_','_','t','i','n','i','_','_']) (o:=['t','c','e','j','b','o']) (by kernel_rfl) F.owner_object];kernel_rfl
noncomputable def Bh(l:Addr):Obj:={ cls:=.type "list_iterator",data:=.fields #[.ref l,.int 0 0]}
abbrev zA(h:Heap)(l1 l2 l3:Addr):Heap:=((h.push (Bh l1)).push (Bh l2)).push (Bh l3)
abbrev zB(h:Heap)(l1 l2 l3:Addr):Heap:=(zA h l1 l2 l3).push { cls:=.type "tuple",data:=.seq #[.ref h.objs.size,.ref (h.push (Bh l1)).objs.size,.ref ((h.push (Bh l1)).push (Bh l2)).objs.size]}
abbrev zC(h:Heap)(l1 l2 l3:Addr):Heap:=(zB h l1 l2 l3).push { cls:=.type "tuple",data:=.seq #[.none,.none,.none]}
abbrev zD(h:Heap)(l1 l2 l3:Addr):Heap:=(zC h l1 l2 l3).push { cls:=.type "zip",data:=.fields #[.none,.bool false,.bool false,.ref (zA h l1 l2 l3).objs.size,.ref (zB h l1 l2 l3).objs.size]}
set_option maxHeartbeats 4000000 in
theorem Bi(l1 l2 l3:Addr)(xs ys zs:Array Value):Meets (Builtin.«zip.__new__» ⟨[.type "zip",.ref l1,.ref l2,.ref l3],[]⟩) (λ _ R s=>s.heap.IsList l1 xs/\s.heap.IsList l2 ys/\s.heap.IsList l3 zs /\
   R (.ok (.ret (.ref (zC s.heap l1 l2 l3).objs.size))) { s with heap:=zD s.heap l1 l2 l3}):=
 .of_wp λ prog w A R s h=>by
  obtain⟨hp,g,d,tk,os⟩:=s;refine oM h λ uY N8 P9 h=>?_;have Hq:=sub_zip;have hL1:Heap.IsList (Shared.heap ⟨hp,g,d,tk,os⟩) l1 xs:=uY;have hL2:Heap.IsList (Shared.heap ⟨hp.push { cls:=.type "list_iterator",data:=.fields #[.ref l1,.int 0 0]},g,d,tk,os⟩) l2 ys:=Heap.IsList.push N8 _;have hL3:Heap.IsList (Shared.heap ⟨(hp.push { cls:=.type "list_iterator",data:=.fields #[.ref l1,.int 0 0]}).push { cls:=.type "list_iterator",data:=.fields #[.ref l2,.int 0 0]},g,d,tk,os⟩) l3 zs:=Heap.IsList.push (Heap.IsList.push P9 _) _
  wp_walk using wpAny_pyIter_list hL1,wpAny_pyIter_list hL2,wpAny_pyIter_list hL3
  exact⟨_,rfl,h⟩
theorem Ef{s:Shared}{l1 l2 l3:Addr}(uY:s.heap.IsList l1 xs)(N8:s.heap.IsList l2 ys)(P9:s.heap.IsList l3 zs)(h:∀h',Z3 h' s.heap.objs.size .none->h'.IsListIter s.heap.objs.size l1 0->h'.IsListIter (s.heap.objs.size+1) l2 0->h'.IsListIter (s.heap.objs.size+2) l3 0 ->
   (∀c o,s.heap.get? c=some o->h'.get? c=some o)->Q (.ref (s.heap.objs.size+5)) { s with heap:=h'}):wpAny (model prog w) A (call (.type "zip") [.ref l1,.ref l2,.ref l3]) Q E s:=by
 refine callType_new F.called_zip (by decide) (Ee _ _ _) (HE _ _ _) (λ obj=>Vp obj _ _ _) F.entry_zip_new
  (Bi l1 l2 l3 xs ys zs) ⟨uY,N8,P9,?_⟩
 have z1:(s.heap.push (Bh l1)).objs.size=s.heap.objs.size+1:=Heap.size_push ..;have z2:((s.heap.push (Bh l1)).push (Bh l2)).objs.size=s.heap.objs.size+2:=by rw[Heap.size_push,z1]
 have z3:(zA s.heap l1 l2 l3).objs.size=s.heap.objs.size+3:=by rw[Heap.size_push,z2]
 have z4:(zB s.heap l1 l2 l3).objs.size=s.heap.objs.size+4:=by rw[Heap.size_push,z3]
 have z5:(zC s.heap l1 l2 l3).objs.size=s.heap.objs.size+5:=by rw[Heap.size_push,z4]
 have up:∀c o,s.heap.get? c=some o->(zD s.heap l1 l2 l3).get? c=some o:=λ c o e=>dA _ (dA _ (dA _ (dA _ (dA _ (dA _ e)))));have g0:(zD s.heap l1 l2 l3).get? s.heap.objs.size=some (Bh l1):=dA _ (dA _ (dA _ (dA _ (dA _ (d5 _ rfl)))));have g1:(zD s.heap l1 l2 l3).get? (s.heap.push (Bh l1)).objs.size=some (Bh l2):=dA _ (dA _ (dA _ (dA _ (d5 _ rfl))));have g2:(zD s.heap l1 l2 l3).get? ((s.heap.push (Bh l1)).push (Bh l2)).objs.size=some (Bh l3):=dA _ (dA _ (dA _ (d5 _ rfl)));have g3:(zD s.heap l1 l2 l3).get? (zA s.heap l1 l2 l3).objs.size=some _:=dA _ (dA _ (d5 _ rfl));have g4:(zD s.heap l1 l2 l3).get? (zB s.heap l1 l2 l3).objs.size=some _:=dA _ (d5 _ rfl);have g5:(zD s.heap l1 l2 l3).get? (zC s.heap l1 l2 l3).objs.size=some _:=d5 _ rfl;rw[z1] at g1;rw[z2] at g2;rw[z1,z2,z3] at g3;rw[z4] at g4;rw[z3,z4,z5] at g5;show _/\_;rw[z5];exact⟨⟨_,g5,rfl⟩,h _ ⟨g5,g3,_,_,_,g4⟩ ⟨_,g0,rfl,rfl⟩ ⟨_,g1,rfl,rfl⟩ ⟨_,g2,rfl,rfl⟩ up⟩
end
section
variable {W:Wd} {Φ:Fz} {ρ:List Addr} {σ:ae}
inductive JZ(n l1 l2 l3:Nat)(xs:List PyData)(Φ:Fz)(h:Heap):Prop
 |mk (un:∀a:Nat,n<=a/\a<=n+5->Φ a=none) (z:Z3 h n .none) (k:Nat) (v1:List Value) (m1:Nat) (v2:List Value) (m2:Nat) (v3:List Value) (m3:Nat) (d1 d2 d3:List PyData) (i1:h.IsListIter n l1 k) (i2:h.IsListIter (n+1) l2 k) (i3:h.IsListIter (n+2) l3 k) (f1:Φ l1=some (dE v1 m1)) (f2:Φ l2=some (dE v2 m2)) (f3:Φ l3=some (dE v3 m3)) (r1:dF Φ v1 d1) (r2:dF Φ v2 d2) (r3:dF Φ v3 d3) (q1:d1.length=d2.length) (q2:d1.length=d3.length) (q3:xs=pT (d1.drop k) (d2.drop k) (d3.drop k)):JZ n l1 l2 l3 xs Φ h
section
variable {k l1 l2 l3 n x1:Nat}{r xs:List PyData}{Φ:Fz}{h:Heap}{fs:List Addr}{elts:List Expr}
theorem six{P:Nat->Prop}{a:Nat}(p0:P n)(p1:P (n+1))(p2:P (n+2))(p3:P (n+3))(p4:P (n+4))(p5:P (n+5))(q:n<=a/\a<=n+5):P a:=by
 obtain⟨j,rfl⟩:=Nat.exists_eq_add_of_le q.1;have hj:j<=5:=Nat.le_of_add_le_add_left q.2
 match j,hj with
 |0,_=>exact p0
 |1,_=>exact p1
 |2,_=>exact p2
 |3,_=>exact p3
 |4,_=>exact p4
 |5,_=>exact p5
 |_+6,h=>exact absurd h (Nat.not_le_of_gt (Nat.le_add_left 6 _))
theorem JZ.un(J:JZ n l1 l2 l3 xs Φ h)(a:Nat)(q:n<=a/\a<=n+5):Φ a=none:=by
 cases J with
 |mk u=>exact u a q
theorem JZ.z(J:JZ n l1 l2 l3 xs Φ h):Z3 h n .none:=by
 cases J with
 |mk _ z=>exact z
theorem Vq{f:Value}(z:Z3 h n f)(i1:h.IsListIter n l1 k)(i2:h.IsListIter (n+1) l2 k)(i3:h.IsListIter (n+2) l3 k){a:Nat}(q:n<=a/\a<=n+5):∃o,h.get? a=some o:=by
 obtain⟨o1,e1,_⟩:=i1;obtain⟨o2,e2,_⟩:=i2;obtain⟨o3,e3,_⟩:=i3;obtain⟨_,_,_,e4⟩:=z.to;exact six (P:=λ a=>∃o,h.get? a=some o) ⟨_,e1⟩ ⟨_,e2⟩ ⟨_,e3⟩ ⟨_,z.ti⟩ ⟨_,e4⟩ ⟨_,z.z⟩ q
theorem JZ.lv(J:JZ n l1 l2 l3 xs Φ h)(a:Nat)(q:n<=a/\a<=n+5):∃o,h.get? a=some o:=by
 cases J with
 |mk _ z _ _ _ _ _ _ _ _ _ _ i1 i2 i3=>exact Vq z i1 i2 i3 q
theorem HF:∀{a b c:List PyData},a.length=b.length->a.length=c.length->pT a b c=[]->a=[]
 |[],_,_,_,_,_=>rfl
 |x::a,y::b,z::c,_,_,h=>nomatch h
 |x::a,[],c,h,_,_=>nomatch h
 |x::a,y::b,[],_,h,_=>nomatch h
theorem Eg{a b c:List PyData}{t:PyData}(h1:a.length=b.length)(h2:a.length=c.length)(h:pT a b c=t::r):∃x a' y b' z c',a=x::a'/\b=y::b'/\c=z::c'/\t=.tuple [x,y,z]/\r=pT a' b' c':=by
 cases a with
 |nil=>cases h
 |cons x a=>cases b with
  |nil=>cases h1
  |cons y b=>cases c with
   |nil=>cases h2
   |cons z c=>cases h;exact⟨_,_,_,_,_,_,rfl,rfl,rfl,rfl,rfl⟩
theorem ag2{α:Type}{l r:List α}{x:α}(h:l.drop k=x::r):l[k]?=some x/\l.drop (k+1)=r:=by
 have hk:k<l.length:=by
  rcases Nat.lt_or_ge k l.length with q|q
  .exact q
  .rw[List.drop_eq_nil_of_le q] at h;cases h
 rw[List.drop_eq_getElem_cons hk] at h;cases h;exact⟨gj hk,rfl⟩
theorem Li{tp:Pos}(b1:l1<n)(b2:l2<n)(b3:l3<n)(JW:∀a:Nat,n<=a/\a<=n+5->(a:Addr)∉ρ):RX W ρ σ fs (.Tuple elts x1 tp) (n+5) (λ(a:Nat)=>n<=a/\a<=n+5) (JZ n l1 l2 l3) where
 YM:=λ J a q=>J.un a q
 live:=λ J a q=>J.lv a q
 keep:=by
  intro xs Φ Φ' h h' J I ext fresh k;have P7:∀(j:Nat) o,j<=5->h.get? (n+j)=some o->h'.get? (n+j)=some o:=λ j o hj e=>k (n+j) o ⟨cU _ _,eB hj _⟩ e;have un:∀a:Nat,n<=a/\a<=n+5->Φ' a=none:=λ a q=>let⟨o,e⟩:=J.lv a q;(fresh a o e).trans (J.un a q)
  obtain⟨u,⟨z,ti,a,b,c,to⟩,kk,v1,m1,v2,m2,v3,m3,d1,d2,d3,i1,i2,i3,f1,f2,f3,r1,r2,r3,q1,q2,q3⟩:=J;exact⟨un,⟨P7 5 _ (by exact lZ rfl) z,P7 3 _ (by exact lZ rfl) ti,a,b,c,P7 4 _ (by exact lZ rfl) to⟩,kk,v1,m1,v2,m2,v3,m3,d1,d2,d3,i1.at λ o e=>P7 0 o (by exact dk) e,i2.at λ o e=>P7 1 o (by exact lZ rfl) e,i3.at λ o e=>P7 2 o (by exact lZ rfl) e,ext _ _ f1,ext _ _ f2,ext _ _ f3,r1.mono ext,r2.mono ext,r3.mono ext,q1,q2,q3⟩
 next:=by
  intro A s Φ xs x Q E I J hQ;obtain⟨u,Z,k,v1,m1,v2,m2,v3,m3,d1,d2,d3,i1,i2,i3,f1,f2,f3,r1,r2,r3,q1,q2,q3⟩:=J;obtain⟨x1,a',x2,b',x3,c',e1,e2,e3,rfl,e4⟩:=Eg (by rw[kC,kC,q1]) (by rw[kC,kC,q2]) q3.symm;obtain⟨g1,t1⟩:=ag2 e1;obtain⟨g2,t2⟩:=ag2 e2;obtain⟨g3,t3⟩:=ag2 e3;obtain⟨w1,PN,s1⟩:=r1.get g1;obtain⟨w2,UW,s2⟩:=r2.get g2;obtain⟨w3,hw3,s3⟩:=r3.get g3;refine Ed Z b1 b2 b3 i1 i2 i3 ⟨_,(I.fe _ _ f1),rfl,m1,rfl⟩ ⟨_,(I.fe _ _ f2),rfl,m2,rfl⟩ ⟨_,(I.fe _ _ f3),rfl,m3,rfl⟩ (by simpa using PN) (by simpa using UW) (by simpa using hw3) λ av Zg j1 j2 j3 hT hk=>⟨_,rfl,?_⟩;refine Lh (s:={ s with heap:=av}) Zg λ aQ HG gx=>?_;have Zh:s.heap.get? s.heap.objs.size=none:=Heap.br _;have yD:∀a:Nat,n<=a/\a<=n+5->a≠s.heap.objs.size:=by
   intro a q r;have:n+5<s.heap.objs.size:=eE Z.z;exact Nat.not_le_of_lt (Nat.lt_of_lt_of_eq this r.symm) q.2
  have k2:∀(c:Nat) o,¬(n<=c/\c<=n+5)->s.heap.get? c=some o->aQ.get? c=some o:=λ c o hc e=>(gx.2 c (by rintro q;exact hc ⟨by have:c=n+5:=q;exact this▸cU n 5,by have:c=n+5:=q;exact bV this⟩)).trans (hk c o hc e);have Vs:aQ.get? s.heap.objs.size=some (gG [w1,w2,w3] 0):=(gx.2 _ (by intro q;exact yD (n+5) ⟨by exact kF,by exact cy _⟩ q.symm)).trans hT;have cZ:Inv W Φ ρ σ aQ:=I.other (X:=λ(a:Nat)=>n<=a/\a<=n+5) (λ a o hn e=>k2 a o hn e) u JW;have Zi:Φ s.heap.objs.size=none:=I.bp Zh;have ext:∀b o',Φ b=some o'->(Φ.add s.heap.objs.size (gG [w1,w2,w3] 0)) b=some o':=λ b o' e=>by
   haveI:b≠s.heap.objs.size:=neN e Zi;simp[Fz.add,this,e]
  haveI fr:∀a o,s.heap.get? a=some o->(Φ.add s.heap.objs.size (gG [w1,w2,w3] 0)) a=Φ a:=λ a o e=>by
   haveI:a≠s.heap.objs.size:=neN e Zh;simp[Fz.add,this]
  haveI fE:Inv W (Φ.add s.heap.objs.size (gG [w1,w2,w3] 0)) ρ σ aQ:=by
   refine⟨λ b o' e=>ext b o' (cZ.base b o' e),λ b o' e=>?_,cZ.len,λ i b c h1 h2=>(cZ.cell i b c h1 h2).mono ext (λ o q=>q),cZ.nodup,λ b hb=>?_⟩
   .by_cases q:b=s.heap.objs.size
    .subst q;simp[Fz.add] at e;subst e;exact Vs
    .simp[Fz.add,q] at e;exact cZ.fe b o' e
   .haveI:b≠s.heap.objs.size:=by
     rintro rfl;obtain⟨o,e⟩:=I.live hb;rw[Zh] at e;cases e
    simp[Fz.add,this,cZ.apart b hb]
  refine hQ _ _ aQ ⟨λ a q=>?_,HG,k+1,v1,m1,v2,m2,v3,m3,d1,d2,d3,j1.at λ o e=>(gx.2 _ (nn (by exact pN rfl))).trans e,j2.at λ o e=>(gx.2 _ (nn (by exact dK rfl))).trans e,j3.at λ o e=>(gx.2 _ (nn (by exact dK rfl))).trans e,ext _ _ f1,ext _ _ f2,ext _ _ f3,r1.mono ext,r2.mono ext,r3.mono ext,q1,q2,by simp only[t1,t2,t3];exact e4⟩ ext fr fE ?_ ?_
  .haveI:=yD a q;simp only[Fz.add];rw[if_neg this];exact u a q
  .exact⟨λ a o hn _ e=>k2 a o hn e,λ a o hn e=>⟨o.slots,k2 a o hn e⟩⟩
  .exact RD.tuple (Fz.hU ..) (.cons (s1.mono ext) (.cons (s2.mono ext) (.cons (s3.mono ext) .nil)))
 stop:=by
  intro A s Φ Q E hh I J hQ;obtain⟨u,Z,k,v1,m1,v2,m2,v3,m3,d1,d2,d3,i1,i2,i3,f1,f2,f3,r1,r2,r3,q1,q2,q3⟩:=J;haveI hle:d1.length<=k:=List.drop_eq_nil_iff.mp (HF (by rw[kC,kC,q1]) (by rw[kC,kC,q2]) q3.symm);refine HD hh Z b1 i1 ⟨_,(I.fe _ _ f1),rfl,m1,rfl⟩ (by simp[r1.length,hle]) λ h' hk=>?_;exact hQ h' (I.other (X:=λ(a:Nat)=>n<=a/\a<=n+5) (λ a o hn e=>hk a o hn e) u JW) ⟨λ a o hn _ e=>hk a o hn e,λ a o hn e=>⟨o.slots,hk a o hn e⟩⟩
end
end
section
variable {W:Wd} {n:Nat} {C:aG}
theorem Lj(ha:cS W n C sc a l)(hb:cS W n C sc b m)(hc:cS W n C sc c r):cS W n C sc (.Ga a b c) (.Compare l [.LtE,.Lt] [m,r] pos):=by
 intro A e0 af L env s Φ ρ σ fr cx D;rw[wV];refine au.of (P':=λ Q E s=>wpAny (model W.prog W.w) A (eval l env) (λ va aL=>wpAny (model W.prog W.w) A (eval m env) (λ vb bB=>wpAny (model W.prog W.w) A (compareOp .LtE va vb) (λ c dj=>wpAny (model W.prog W.w) A (truthy c) (λ t gy=>
   if t then wpAny (model W.prog W.w) A (eval r env) (λ vc lG=>wpAny (model W.prog W.w) A (compareOp .Lt vb vc) Q E lG) E gy else Q c gy) E dj) E bB) E aL) E s) (λ Q E h=>?_) ?_
 .refine Compare_chain (rs:=[]) (ops:=[]) (cj h (λ va aL av=>chain_link (cj av (λ vb bB aQ=>cj aQ (λ c dj aO=>cj aO (λ t gy gz=>?_) λ _ _ x=>x) λ _ _ x=>x) λ _ _ x=>x)) λ _ _ x=>x) (yQ r);cases t with
  |false=>exact gz
  |true=>exact chain_last (by simpa using gz)
 .refine au.seq (ha cx D) λ va ya aX cJ av k₁ oU du aW dY=>?_;refine au.seq (hb cx (D.step aW du)) λ vb yb dG ff aQ k₂ AN cZ cT jq=>?_;refine au.opt λ x hx=>au.opt λ y hy=>au.opt λ t ht=>?_;haveI q:∀(Q:Value->Shared->Prop) (E:Value->Shared->Prop),Q (.bool t) { s with heap:=aQ,toks:=k₂}->wpAny (model W.prog W.w) A (compareOp .LtE va vb) Q E { s with heap:=aQ,toks:=k₂}:=λ Q E hQ=>qY (s:={ s with heap:=aQ,toks:=k₂}) (op:=.le) cZ (jr cx) (cZ.aE (VR.mono cT.ext dY) hx) (cZ.aE jq hy) ht hQ;obtain⟨i,j,rfl,rfl⟩:=le_int ht;haveI YJ:=vK hy;subst YJ;cases t with
  |false=>exact au.ok λ Q E hQ=>q _ _ (kB (hQ _ ff aQ k₂ cZ (.refl ..) (RD.bool _)))
  |true=>
   refine au.of (P':=λ Q E gy=>wpAny (model W.prog W.w) A (eval r env) (λ vc lG=>wpAny (model W.prog W.w) A (compareOp .Lt vb vc) Q E lG) E gy) (λ Q E h=>q _ _ (kB (by simpa using h))) ?_;refine au.seq (P2:=λ vc Q E lG=>wpAny (model W.prog W.w) A (compareOp .Lt vb vc) Q E lG) (hc cx ((D.step aW du).step cT cZ)) λ vc yc gc d6 aO cM kg fE bF q6=>?_;refine au.opt λ z hz=>au.opt λ t ht=>au.ok λ Q E hQ=>?_;exact qY (s:={ s with heap:=aO,toks:=cM}) (op:=.lt) fE (jr cx) (.fe (RD.mono bF.ext jq)) (fE.aE q6 hz) ht (hQ _ d6 aO cM fE (.refl ..) (RD.bool _))
def Lk(W:Wd)(n:Nat)(C:aG)(sc:Sc)(xs:List E)(es:List Expr):Prop:=
 ∀(pos:Pos) {A:Around} {e0:Env} {af:List Env} {L:Addr} {env:Env} {s:Shared} {Φ:Fz} {ρ:List Addr} {σ:ae} {fr:agq},Cx W n A e0 af L env sc->Dy W Φ ρ σ (e0::af) env sc.vars fr s.heap->pY W A (e0::af) L ρ (spliced (backTo pos (starEach es env))) Φ s (fL W.G C xs fr σ) (tA ρ)
inductive Vt(W:Wd)(n:Nat)(C:aG)(sc:Sc):List E->List Expr->Prop
 |nil:Vt W n C sc [] []
 |cons {x:E} {xs:List E} {e:Expr} {es:List Expr}:cS W n C sc x e->Vt W n C sc xs es->Vt W n C sc (x::xs) (e::es)
structure R6(W:Wd)(n:Nat)(C:aG)(sc:Sc)(xs:List E)(es:List Expr):Prop where
 vals:Lk W n C sc xs es
 band:xs≠[]->mR W n C sc .And xs es
 bor:xs≠[]->mR W n C sc .Or xs es
 Vu:qd W n C sc .And xs es
 aor:qd W n C sc .Or xs es
 ifs:mU W n C sc xs es
 all:Vt W n C sc xs es
theorem Ll:R6 W n C sc [] []:=⟨λ _=>λ _ D=>PD D,λ h=>absurd rfl h,λ h=>absurd rfl h,yP,AQ,KW,.nil⟩
theorem HH(u7:agB e=true)(hl:xs=[]↔es=[])(h:cS W n C sc x e)(ht:yk W n C sc x e)(r:R6 W n C sc xs es):R6 W n C sc (x::xs) (e::es):=by
 refine⟨λ pos=>Ky u7 h (r.vals pos),λ _=>?_,λ _=>?_,KO ht r.Vu,PJ ht r.aor,GP ht r.ifs,.cons h r.all⟩
 .cases xs with
  |nil=>rw[hl.mp rfl];exact yO h
  |cons y ys=>
   cases es with
   |nil=>exact absurd (hl.mpr rfl) (by simp)
   |cons f fs=>exact ahm h (r.band (by simp))
 .cases xs with
  |nil=>rw[hl.mp rfl];exact yO h
  |cons y ys=>
   cases es with
   |nil=>exact absurd (hl.mpr rfl) (by simp)
   |cons f fs=>exact KN h (r.bor (by simp))
theorem t6:∀{xs:List E} {es:List Expr},kb W.GN W.FN sc xs es=true->(xs=[]↔es=[])
 |[],es,h=>by(first|rw[GB] at h|rw[vH] at h);simp at h;simp[h]
 |x::xs,[],h=>by simp[vH] at h
 |x::xs,e::es,h=>by simp
theorem t7(h:mR W n C sc op xs es)(x:E)(hx:∀fr σ,evE W.G C x fr σ=(match op with|.And=>dg W.G C xs fr σ | .Or=>i9 W.G C xs fr σ)):cS W n C sc x (.BoolOp op es pos):=by
 intro A e0 af L env s Φ ρ σ fr cx D;refine bO (hx ..) ?_;cases op<;>exact au.of (λ Q E h=>h) (h pos cx D)
theorem t8(h:qd W n C sc op xs es)(x:E)(hx:∀fr σ,evE W.G C x fr σ=(match op with|.And=>dg W.G C xs fr σ | .Or=>i9 W.G C xs fr σ)):yk W n C sc x (.BoolOp op es pos):=by
 intro A e0 af L env s Φ ρ σ fr cx D;unfold u6;rw[hx];cases op<;>exact au.of (λ Q E h=>wpAny_isTrue_BoolOp h) (h cx D)
theorem ag7(he:∀env whole,isTrue e env whole=(do let v ←whole;standAt e.pos;holding [v] (truthy v)))(h:cS W n C sc x e):cS W n C sc x e/\yk W n C sc x e:=⟨h,DT h he⟩
section
variable {sc:Sc}{xs:List E}{es:List Expr}{pos:Pos}
theorem Lm(ho:o=Gr op)(hb:behindInMarks o r=false)(ha:cS W n C sc a l)(hr:cS W n C sc b r):cS W n C sc (.cmp op a b) (.Compare l [o] [r] pos)/\yk W n C sc (.cmp op a b) (.Compare l [o] [r] pos):=⟨KA ho hb ha hr,KD ho hb ha hr⟩
theorem rh{α:Type}{xs:List α}(h:(!xs.isEmpty)=true):xs≠[]:=λ q=>by subst q;exact Bool.noConfusion h
theorem Ln(h:(!xs.isEmpty)=true)(r:R6 W n C sc xs es):cS W n C sc (.and xs) (.BoolOp .And es pos)/\yk W n C sc (.and xs) (.BoolOp .And es pos):=⟨t7 (r.band (rh h)) _ λ fr σ=>rfl,t8 r.Vu _ λ fr σ=>rfl⟩
theorem Qb(h:(!xs.isEmpty)=true)(r:R6 W n C sc xs es):cS W n C sc (.or xs) (.BoolOp .Or es pos)/\yk W n C sc (.or xs) (.BoolOp .Or es pos):=⟨t7 (r.bor (rh h)) _ λ fr σ=>rfl,t8 r.aor _ λ fr σ=>rfl⟩
theorem HI(hz:g.is_async=0)(hm:m=aa.names.length)(pK:fh sc aa=true)(lL:ef g.iter=true)(hit:cS W n C sc it g.iter)(hi:mU W n C (aq sc aa) ifs g.ifs)(he:cS W n C (aq sc aa) elt ee)(ht:mz (aq sc aa) t g.target=true)(tH:c7 (bk (aq sc aa)) t=true)(AX:ifs=[]->g.ifs=[]):cS W n C sc (.comp m elt t it ifs) (.ListComp ee [g] aa pos):=by
 subst hm;obtain⟨t',PQ,Qc,z⟩:=g;subst hz;exact G1 pK lL hit hi he ht tH AX
theorem Eh{aa:Scope}{elt qQ it2:E}{t1 t2:Tg}{m:Nat}{ee:Expr}{g g':Comprehension}(hz:((g.is_async==0)&&((g'.is_async==0)&&(g.ifs.isEmpty&&g'.ifs.isEmpty)))=true)(hm:m=aa.names.length)(pK:fh sc aa=true)(lL:(ef g.iter&&ef g'.iter)=true)(hit:cS W n C sc qQ g.iter)(xi:cS W n C (aq sc aa) it2 g'.iter)(he:cS W n C (aq sc aa) elt ee)(A0:(mz (aq sc aa) t1 g.target&&c7 (bk (aq sc aa)) t1)=true)(D0:(mz (aq sc aa) t2 g'.target&&c7 (bk (aq sc aa)) t2)=true)(hd:lD t1 t2=true):cS W n C sc (.fY m elt t1 qQ t2 it2) (.ListComp ee [g,g'] aa pos):=by
 subst hm;obtain⟨t',PQ,Qc,z⟩:=g;obtain⟨t'',Zj,Vv,z'⟩:=g';obtain⟨h1,h⟩:=cf hz;obtain⟨h2,h⟩:=cf h;obtain⟨h3,h4⟩:=cf h;obtain rfl:=bE h1;obtain rfl:=bE h2;obtain rfl:=agX h3;obtain rfl:=agX h4;exact D3 pK (cf lL).1 (cf lL).2 hit xi he (cf A0).1 (cf A0).2 (cf D0).1 (cf D0).2 hd
end
theorem CP{sc:Sc}:∀{ks:List Str} {vs:List E} {vX:List (Option Expr)} {ym:List Expr},vs.length=ks.length->PA ks vX=true->Vt W n C sc vs ym->zi W n C sc ks vs vX ym
 |[],vs,vX,ym,hl,hk,ha=>by
  obtain rfl:=List.length_eq_zero_iff.mp hl;cases ha;obtain rfl:=agX hk;exact .nil
 |k::ks,vs,vX,ym,hl,hk,ha=>by
  cases ha with
  |nil=>cases hl
  |cons h r=>
   cases vX with
   |nil=>exact Bool.noConfusion hk
   |cons ke vX=>
    haveI h1:=(cf hk).1;haveI h2:=(cf hk).2;obtain⟨e,rfl,h3⟩:=mP h1;obtain⟨c,⟨k1,p1,rfl⟩,h4⟩:=aw h3;exact .cons (w7 h4) h (CP (Nat.succ.inj hl) h2 r)
variable (B:agY W) (FO:w6 W) (hC:w5 W n C)
include B FO hC
mutual
theorem sim:∀(x:E) (sc:Sc) (e:Expr),lr W.GN W.FN sc x e=true->cS W n C sc x e/\yk W n C sc x e
 |.con x,sc,e,h=>by
  replace h:=aw h;obtain⟨c,⟨k,p,rfl⟩,h⟩:=h;exact ag7 (λ _ _=>rfl) (w7 h)
 |.var i,sc,e,h=>by
  replace h:=aw h;obtain⟨c,⟨p,rfl⟩,h⟩:=h;exact ag7 (λ _ _=>rfl) (PC h)
 |.glob g,sc,e,h=>by
  replace h:=aw h;obtain⟨c,⟨p,rfl⟩,h⟩:=h;exact ag7 (λ _ _=>rfl) (Kx B (ll h) (n9 h))
 |.tup xs,sc,e,h=>by
  replace h:=aw h;obtain⟨c,⟨k,p,rfl⟩,h⟩:=h;exact ag7 (λ _ _=>rfl) (PE (kz (ll h)) ((sD xs sc _ (n9 h)).vals _))
 |.lst xs,sc,e,h=>by
  replace h:=aw h;obtain⟨c,⟨p,rfl⟩,h⟩:=h;exact ag7 (λ _ _=>rfl) (PF (kz (ll h)) ((sD xs sc _ (n9 h)).vals _))
 |.idx a i,sc,e,h=>by
  replace h:=aw h;obtain⟨c,⟨p,rfl⟩,h⟩:=h;exact ag7 (λ _ _=>rfl) (Kz (ll h) (sim a sc _ (pJ h)).1 (sim i sc _ (Ct h)).1)
 |.Fs a lo hi,sc,e,h=>by
  replace h:=aw h;obtain⟨q,⟨p1,p,rfl⟩,h⟩:=h;haveI h1:=(cf h).1;haveI h:=(cf h).2;haveI h2:=(cf h).1;haveI h:=(cf h).2;obtain⟨c1,⟨k1,p1',e1⟩,h1⟩:=aw h1;obtain⟨c2,⟨k2,p2',e2⟩,h2⟩:=aw h2;simp only[e1,e2];exact ag7 (λ _ _=>rfl) (KL (sim a sc _ h).1 (w7 h1) (w7 h2))
 |.cmp op a b,sc,e,h=>by
  replace h:=aw h;obtain⟨q,⟨p,rfl⟩,h⟩:=h;exact Lm (bE (ll h)) ((Bool.not_eq_true' _).mp (pJ h)) (sim a sc _ (yj h)).1 (sim b sc _ (RU h)).1
 |.Ga a b c,sc,e,h=>by
  replace h:=aw h;obtain⟨q,⟨p,rfl⟩,h⟩:=h;exact⟨Lj (sim a sc _ (ll h)).1 (sim b sc _ (pJ h)).1 (sim c sc _ (Ct h)).1,KR (sim a sc _ (ll h)).1 (sim b sc _ (pJ h)).1 (sim c sc _ (Ct h)).1⟩
 |.and xs,sc,e,h=>by
  replace h:=aw h;obtain⟨q,⟨p,rfl⟩,h⟩:=h;exact Ln (ll h) (sD xs sc _ (n9 h))
 |.or xs,sc,e,h=>by
  replace h:=aw h;obtain⟨q,⟨p,rfl⟩,h⟩:=h;exact Qb (ll h) (sD xs sc _ (n9 h))
 |.not a,sc,e,h=>by
  replace h:=aw h;obtain⟨q,⟨p,rfl⟩,h⟩:=h;exact⟨KH (sim a sc _ h).1,KI (sim a sc _ h).2⟩
 |.bin op a b,sc,e,h=>by
  replace h:=aw h;obtain⟨q,⟨p,rfl⟩,h⟩:=h;exact ag7 (λ _ _=>rfl) (KG (bE (ll h)) (sim a sc _ (pJ h)).1 (sim b sc _ (Ct h)).1)
 |.neg a,sc,e,h=>by
  replace h:=aw h;obtain⟨q,⟨p,rfl⟩,h⟩:=h;exact ag7 (λ _ _=>rfl) (KJ (sim a sc _ h).1)
 |.call f xs,sc,e,h=>by
  replace h:=aw h;obtain⟨q,⟨px,p,rfl⟩,h⟩:=h;exact ag7 (λ _ _=>rfl) (GC B FO hC (ll h) (pJ h) (Ct h) ((sD xs sc _ (Ct h)).vals _))
 |.len a,sc,e,h=>by
  replace h:=aw h;obtain⟨q,⟨px,p,rfl⟩,h⟩:=h;exact ag7 (λ _ _=>rfl) (KP B (ll h) (bE (pJ h)) (yj h) (sim a sc _ (RU h)).1)
 |.l5 a,sc,e,h=>by
  replace h:=aw h;obtain⟨q,⟨px,p,rfl⟩,h⟩:=h;exact ag7 (λ _ _=>rfl) (DW B (ll h) (bE (pJ h)) (yj h) (sim a sc _ (RU h)).1)
 |.oA a,sc,e,h=>by
  replace h:=aw h;obtain⟨q,⟨px,p,rfl⟩,h⟩:=h;exact ag7 (λ _ _=>rfl) (DX B (ll h) (bE (pJ h)) (yj h) (sim a sc _ (RU h)).1)
 |.qW ng a i,sc,e,h=>by
  replace h:=aw h;obtain⟨q,⟨px,p,rfl⟩,h⟩:=h;exact⟨GI B (bE (ll h)) (pJ h) (sim a sc _ (Ct h)).1,GJ B (bE (ll h)) (pJ h) (sim a sc _ (Ct h)).1⟩
 |.u0 i a,sc,e,h=>by
  replace h:=aw h;obtain⟨q,⟨px,p,rfl⟩,h⟩:=h;exact ag7 (λ _ _=>rfl) (GK B (ll h) (pJ h) (sim a sc _ (Ct h)).1)
 |.comp m elt t it ifs,sc,e,h=>by
  replace h:=aw h;obtain⟨q,⟨p,rfl⟩,h⟩:=h;exact ag7 (λ _ _=>rfl) (HI (bE (ll h)) (bE (pJ h)) (yj h) (Cu h) (sim it sc _ (JT h)).1 (sD ifs _ _ (Kv h)).ifs (sim elt _ _ (YB h)).1 (Ku h) (PB h) (t6 (Kv h)).mp)
 |.fY m elt t1 qQ t2 it2,sc,e,h=>by
  replace h:=aw h;obtain⟨q,⟨p,rfl⟩,h⟩:=h;exact ag7 (λ _ _=>rfl) (Eh (ll h) (bE (pJ h)) (yj h) (Cu h) (sim qQ sc _ (JT h)).1 (sim it2 _ _ (Ku h)).1 (sim elt _ _ (YC h)).1 (PB h) (Kv h) (Xo h))
 |.j0 a,sc,e,h=>by
  replace h:=aw h;obtain⟨q,⟨p1,p2,p3,p,rfl⟩,h⟩:=h;exact ag7 (λ _ _=>rfl) (Bg B (ll h) (bE (pJ h)) (yj h) (bE (Cu h)) (JT h) (sim a sc _ (YA h)).1)
 |.pick ks vs k,sc,e,h=>by
  replace h:=aw h;obtain⟨q,⟨p1,p,rfl⟩,h⟩:=h;exact ag7 (λ _ _=>rfl) (Hy B (ll h) (kz (yj h)) (rh (Cu h)) (JT h) (CP (bE (pJ h)) (Ku h) (sD vs sc _ (PB h)).all) (sim k sc _ (tl7 h)).1)
theorem sD:∀(xs:List E) (sc:Sc) (es:List Expr),kb W.GN W.FN sc xs es=true->R6 W n C sc xs es
 |[],sc,[],h=>Ll
 |[],sc,_::_,h=>Bool.noConfusion h
 |x::xs,sc,[],h=>Bool.noConfusion h
 |x::xs,sc,e::es,h=>by
  haveI h:=cf h;have h1:=cf h.1;haveI:=sim x sc _ h1.2;exact HH h1.1 (t6 h.2) this.1 this.2 (sD xs sc _ h.2)
end
end
structure Fx where
 e0:Env
 af:List Env
 L:Addr
 env:Env
 sc:Sc
 Φs:Fz
 hs:Heap
 mY:List Addr
noncomputable abbrev Fx.l(F:Fx):List Env:=F.e0::F.af
structure SE(W:Wd)(F:Fx)(Φ:Fz)(ρ:List Addr)(σ:ae)(h:Heap):Prop where
 inv:Inv W Φ ρ σ h
 pZ:bh F.l Φ ρ h
 st:agA F.mY (cK F.l) F.Φs F.hs Φ h
 pre:∃r,ρ=F.mY++r/\∀a∈r,F.hs.get? a=none
structure SS(W:Wd)(F:Fx)(Φ:Fz)(ρ:List Addr)(σ:ae)(fr:agq)(h:Heap):Prop where
 se:SE W F Φ ρ σ h
 eC:wY Φ ρ F.env F.sc.vars fr h
 own:∀a,own F.env a->F.hs.get? a=none
section
variable {W:Wd} {F:Fx} {Φ Φ':Fz} {ρ eT:List Addr} {σ aM:ae} {fr aR:agq} {h h':Heap} {s:Shared} {A:Around} {n:Nat} {C:aG}
theorem SS.dy(S:SS W F Φ ρ σ fr h):Dy W Φ ρ σ F.l F.env F.sc.vars fr h:=⟨S.se.inv,S.se.pZ,S.eC⟩
theorem SE.mem(S:SE W F Φ ρ σ h)(ha:a∈ρ):a∈F.mY\/F.hs.get? a=none:=by
 refine aI S.pre λ r z2 hr=>?_;obtain rfl:=z2;rcases bX.mp ha with q|q
 .exact .inl q
 .exact .inr (hr a q)
theorem Kp.comp{X Y:Addr->Prop}(S:Kp X fs hs h)(k:Kp Y fs h h')(hm:∀a o,hs.get? a=some o->Y a->X a):Kp X fs hs h':=
 ⟨λ a o e=>let⟨o',e'⟩:=S.alive a o e;k.alive a o' e',λ a o hx hf e=>k.keep a o (λ q=>hx (hm a o e q)) hf (S.keep a o hx hf e),λ a o hx e=>let⟨_,e'⟩:=S.slots a o hx e;let⟨sl,oP⟩:=k.slots a _ (λ q=>hx (hm a o e q)) e';⟨sl,oP⟩⟩
theorem agA.under(S:agA mY fs Φs hs Φ h)(k:agA ρ fs Φ h Φ' h')(hm:∀a∈ρ,a∈mY\/hs.get? a=none):agA mY fs Φs hs Φ' h':=
 ⟨λ a o e=>k.ext a o (S.ext a o e),λ a o e=>let⟨o',e'⟩:=S.kp.alive a o e;(k.fresh a o' e').trans (S.fresh a o e),S.kp.comp k.kp λ a o e ha=>(hm a ha).elim id λ q=>by rw[q] at e;cases e⟩
theorem SE.step(S:SE W F Φ ρ σ h)(k:agA ρ (cK F.l) Φ h Φ' h')(I:Inv W Φ' ρ aM h'):SE W F Φ' ρ aM h':=
 ⟨I,S.pZ.step k,S.st.under k λ a ha=>S.mem ha,S.pre⟩
theorem SS.step(S:SS W F Φ ρ σ fr h)(k:agA ρ (cK F.l) Φ h Φ' h')(I:Inv W Φ' ρ aM h'):SS W F Φ' ρ aM fr h':=
 ⟨S.se.step k I,(S.dy.step k I).eC,S.own⟩
theorem SS.store(S:SS W F Φ ρ σ fr h)(D:Dy W Φ ρ σ F.l F.env F.sc.vars aR h')(k:Kp (Internal.own F.env) (cK F.l) h h'):SS W F Φ ρ σ aR h':=
 ⟨⟨D.inv,D.pZ,⟨S.se.st.ext,S.se.st.fresh,S.se.st.kp.comp k λ a o e q=>by rw[S.own a q] at e;cases e⟩,S.se.pre⟩,D.eC,S.own⟩
structure Mv(F:Fx)(Φ:Fz)(ρ:List Addr)(h:Heap)(Φ':Fz)(eT:List Addr)(h':Heap):Prop where
 ext:∀a o,Φ a=some o->Φ' a=some o
 fresh:∀a o,h.get? a=some o->Φ' a=Φ a
 kp:Kp (λ a=>Internal.own F.env a\/a∈ρ) (cK F.l) h h'
 pre:∃r,eT=ρ++r/\∀a∈r,h.get? a=none
theorem Mv.refl:Mv F Φ ρ h Φ ρ h:=⟨λ _ _ e=>e,λ _ _ _=>rfl,.refl ..,[],by simp,by simp⟩
theorem Mv.trans(a:Mv F Φ ρ h Φ' eT h')(b:Mv F Φ' eT h' cW iD cb):Mv F Φ ρ h cW iD cb:=by
 refine aI a.pre λ r hr hf=>?_;refine aI b.pre λ r' Gw J2=>?_;refine⟨λ x o e=>b.ext x o (a.ext x o e),λ x o e=>let⟨o',e'⟩:=a.kp.alive x o e;(b.fresh x o' e').trans (a.fresh x o e),a.kp.comp b.kp λ x o e q=>?_,r++r',by simp only[Gw,hr];simp,λ x hx=>?_⟩
 .rcases q with q|q
  .exact .inl q
  .rw[hr] at q;rcases bX.mp q with q|q
   .exact .inr q
   .rw[hf x q] at e;cases e
 .rcases bX.mp hx with q|q
  .exact hf x q
  .refine cq (h.get? x) (λ e=>?_) (λ o e=>?_)
   .rfl
   .obtain⟨o',e'⟩:=a.kp.alive x o e;rw[J2 x q] at e';cases e'
theorem Mv.step(S:agA ρ (cK F.l) Φ h Φ' h'):Mv F Φ ρ h Φ' ρ h':=⟨S.ext,S.fresh,S.kp.mono (λ _ q=>.inr q) λ _ q=>q,[],by simp,by simp⟩
theorem Mv.bind(K:Kp (Internal.own F.env) (cK F.l) h h'):Mv F Φ ρ h Φ ρ h':=⟨λ _ _ e=>e,λ _ _ _=>rfl,K.mono (λ _ q=>.inl q) λ _ q=>q,[],by simp,by simp⟩
theorem Mv.cell(k:∀b o,h.get? b=some o->h'.get? b=some o)(ha:h.get? a=none):Mv F Φ ρ h Φ (ρ++[a]) h':=⟨λ _ _ e=>e,λ _ _ _=>rfl,.bo k,[a],rfl,by simp[ha]⟩
theorem Mv.other(M:Mv F Φ ρ h Φ' eT h')(hT:h.get? T=none)(k:∀a o,a≠T->h'.get? a=some o->cb.get? a=some o):Mv F Φ ρ h Φ' eT cb:=by
 have old:∀a o,h.get? a=some o->a≠T:=λ a o e q=>by rw[q,hT] at e;cases e
 exact⟨M.ext,M.fresh,⟨λ a o e=>let⟨o',e'⟩:=M.kp.alive a o e;⟨o',k a o' (old a o e) e'⟩,λ a o h1 h2 e=>k a o (old a o e) (M.kp.keep a o h1 h2 e),λ a o h1 e=>let⟨sl,e'⟩:=M.kp.slots a o h1 e;⟨sl,k a _ (old a o e) e'⟩⟩,M.pre⟩
def bg(W:Wd)(F:Fx)(P:(Flow->Shared->Prop)->(Value->Shared->Prop)->Shared->Prop)(Φ:Fz)(ρ:List Addr)(s:Shared)(R:XR):Prop:=
 ∀(Q:Flow->Shared->Prop) (E:Value->Shared->Prop),R≠.stuck ->
  (∀aR aM Φ' eT h' k,R=.next aR aM->SS W F Φ' eT aM aR h'->Mv F Φ ρ s.heap Φ' eT h'->Q .next { s with heap:=h',toks:=k}) ->
  (∀u v aM Φ' eT h' k,R=.ret v aM->SE W F Φ' eT aM h'->VR Φ' eT u v->Q (.ret u) { s with heap:=h',toks:=k}) ->
  (∀e aM Φ' eT h' k,R=.err aM->SE W F Φ' eT aM h'->bA Φ' eT F.L F.hs h' e false->E (.ref e) { s with heap:=h',toks:=k}) ->
  P Q E s
def sE(W:Wd)(n:Nat)(C:aG)(sc:Sc)(x:S)(st:Stmt):Prop:=
 ∀{A:Around} {F:Fx} {s:Shared} {Φ:Fz} {ρ:List Addr} {σ:ae} {fr:agq},F.sc=sc->Cx W n A F.e0 F.af F.L F.env F.sc->SS W F Φ ρ σ fr s.heap ->
  bg W F (λ Q E s=>wpAny (model W.prog W.w) A (exec st F.env) Q E s) Φ ρ s (exS W.G C x fr σ)
def ri(W:Wd)(n:Nat)(C:aG)(sc:Sc)(xs:List S)(zk:List Stmt):Prop:=
 ∀{A:Around} {F:Fx} {s:Shared} {Φ:Fz} {ρ:List Addr} {σ:ae} {fr:agq},F.sc=sc->Cx W n A F.e0 F.af F.L F.env F.sc->SS W F Φ ρ σ fr s.heap ->
  bg W F (λ Q E s=>wpAny (model W.prog W.w) A (execs zk F.env) Q E s) Φ ρ s (aD W.G C xs fr σ)
section
variable {P P':(Flow->Shared->Prop)->(Value->Shared->Prop)->Shared->Prop}{xs:List S}{body orelse zk:List Stmt}{e test:Expr}{pos:Pos}
theorem bg.of(hP:∀Q E,P' Q E s->P Q E s)(H:bg W F P' Φ ρ s R):bg W F P Φ ρ s R:=
 λ Q E h1 h2 h3 h4=>hP Q E (H Q E h1 h2 h3 h4)
theorem bg.stuck:bg W F P Φ ρ s .stuck:=λ _ _ h=>absurd rfl h
theorem bg.next(H:∀Q E,(∀Φ' eT h' k,SS W F Φ' eT σ fr h'->Mv F Φ ρ s.heap Φ' eT h'->Q .next { s with heap:=h',toks:=k})->P Q E s):bg W F P Φ ρ s (.next fr σ):=
 λ Q E _ h2 _ _=>H Q E λ Φ' eT h' k S M=>h2 fr σ Φ' eT h' k rfl S M
theorem bg.val{R:Res β}{Rel:Fz->α->β->Prop}{P2:α->(Flow->Shared->Prop)->(Value->Shared->Prop)->Shared->Prop}{g:β->ae->XR}(S:SS W F Φ ρ σ fr s.heap)(H:pY W A F.l F.L ρ t Φ s R Rel)(H2:∀a b aM Φ' h' k,R=.ok b aM->SS W F Φ' ρ aM fr h'->Rel Φ' a b->bg W F (P2 a) Φ' ρ { s with heap:=h',toks:=k} (g b aM)):bg W F (λ Q E s=>wpAny (model W.prog W.w) A t (λ a s'=>P2 a Q E s') E s) Φ ρ s (R.then g):=by
 intro Q E h1 h2 h3 h4;refine H _ _ (λ q=>h1 (by rw[q];rfl)) (λ a b aM Φ' h' k e I St r=>?_) λ x aM Φ' h' k e I St T=>h4 x aM Φ' ρ h' k (by rw[e];rfl) (S.se.step St I) (T.back S.se.st.kp.alive);subst e;exact H2 a b aM Φ' h' k rfl (S.step St I) r Q E h1 (λ aR dS cW iD cb fS e S' M=>h2 aR dS cW iD cb fS e S' ((Mv.step St).trans M)) (λ u v dS cW iD cb fS e=>h3 u v dS cW iD cb fS e) λ x dS cW iD cb fS e=>h4 x dS cW iD cb fS e
theorem bg.opt(H:∀x,o=some x->bg W F P Φ ρ s (g x σ)):bg W F P Φ ρ s ((Res.of σ o).then g):=by
 cases o with
 |none=>exact .stuck
 |some x=>exact H x rfl
theorem bg.ite{c:Prop}[Decidable c](h1:c->bg W F P Φ ρ s Pl)(h2:¬c->bg W F P Φ ρ s Pm):bg W F P Φ ρ s (if c then Pl else Pm):=by
 split
 .exact h1 ‹_›
 .exact h2 ‹_›
theorem Lo:ri W n C sc [] []:=by
 intro A F s Φ ρ σ fr hF cx S
 (first|rw[Pd]|rw[Pe])
 exact bg.next λ Q E hQ=>wpAny_execs_nil (hQ Φ ρ s.heap s.toks S .refl)
theorem HJ{st:Stmt}(h:sE W n C sc x st)(hr:ri W n C sc xs zk):ri W n C sc (x::xs) (st::zk):=by
 intro A F s Φ ρ σ fr hF cx S
 (first|rw[Pd]|rw[Pe])
 intro Q E h1 h2 h3 h4;refine wpAny_execs_cons (h hF cx S _ _ (λ q=>h1 (by rw[q];rfl)) (λ aR aM Φ' eT h' k e S' M=>?_) (λ u v aM Φ' eT h' k e S' r=>?_) λ e aM Φ' eT h' k q S' T=>?_)
 .rw[e] at h1 h2 h3 h4;exact hr hF cx S' Q E h1 (λ aR dS cW iD cb fS e w8 M'=>h2 aR dS cW iD cb fS e w8 (M.trans M')) (λ u v dS cW iD cb fS e=>h3 u v dS cW iD cb fS e) λ x dS cW iD cb fS e=>h4 x dS cW iD cb fS e
 .exact h3 u v aM Φ' eT h' k (by rw[e];rfl) S' r
 .exact h4 e aM Φ' eT h' k (by rw[q];rfl) S' T
theorem Lp(hc:yk W n C sc c test)(ha:ri W n C sc a body)(hb:ri W n C sc b orelse):sE W n C sc (.ite c a b) (.If test body orelse pos):=by
 intro A F s Φ ρ σ fr hF cx S;subst hF;rw[lz];haveI q:((evE W.G C c fr σ).then λ v σ=>(Res.of σ (aP v)).then λ t σ=>if t then aD W.G C a fr σ else aD W.G C b fr σ)=(u6 W.G C c fr σ).then λ t σ=>if t then aD W.G C a fr σ else aD W.G C b fr σ:=by
  unfold u6;cases evE W.G C c fr σ<;>rfl
 rw[q];refine bg.of (λ Q E h=>wpAny_If h) (bg.val S (hc cx S.dy) λ t t' aM Φ' h' k e S' r=>?_);cases r;cases t
 .exact hb rfl cx S'
 .exact ha rfl cx S'
theorem Lq(hx:cS W n C sc x e):sE W n C sc (.ret x) (.Return (some e) pos):=by
 intro A F s Φ ρ σ fr hF cx S;subst hF;rw[lA];refine bg.of (λ Q E h=>wpAny_Return_some h) (bg.val (P2:=λ v Q E s'=>Q (.ret v) s') S (hx cx S.dy) λ u v aM Φ' h' k e S' r=>?_);intro Q E _ _ h3 _;exact h3 u v aM Φ' ρ h' k rfl S'.se r
end
end
set_option backward.match.sparseCases true
noncomputable def Ei(sc:Sc)(agx t:Expr):Bool:=nH (M:=λ _=>Bool) agx (λ _ _ s p=>fH (M:=λ _=>Bool) t (λ id pos=>sc.names.lookup id==some NameKind.local&&pos.line==p.line&&!(s.names.any λ(n,k)=>n==id&&(k==.local || k==.cell))) false) false
section
variable {env:Env}{sc:Sc}{agx:Expr}{p:Pos}{k line:Nat}{ts:List Expr}
noncomputable def t9(e:Expr):Bool:=!(e.ctorIdx==9)&&!(e.ctorIdx==10)
noncomputable def CQ(e:Expr):Bool:=!(e.ctorIdx==8)&&(!(e.ctorIdx==9)&&!(e.ctorIdx==10))
theorem ju(cs:Cs env sc):env.blockKind=.function:=by
 unfold Env.blockKind;rw[cs.kind];rfl
theorem ua(cs:Cs env sc){id:Str}(h:t9 agx=true):swapsWith agx (some (.Name id p)) line env=pure (Ei sc agx (.Name id p)):=by
 cases agx<;>try rfl
 .unfold swapsWith Ei;rw[ju cs];unfold Env.kindOf;rw[cs.names]
  first|rfl|simp[Expr.pos]
 .cases h
 .cases h
theorem jv:swapsWithSole [.Tuple ts k p] agx line env=pure false:=by
 cases agx<;>rfl
end
noncomputable def Xz(sc:Sc)(ts:List Expr):List Str:=ts.filterMap fun
    |.Name id pos=>if(sc.names.lookup id==some NameKind.local&&pos.line==(ts.head?.map (·.pos.line)).getD 0)=true then some id else none
    |_=>none
def swT(sc:Sc)(ts vs:List Expr):Option (Option (List Str)):=
  if(!(ts.length==2 || ts.length==3) || vs.length != ts.length)=true then some none
  else if(vs.any λ | .Starred ..=>true|_=>false)=true then some none
  else if((Xz sc ts).length != ts.length || (Xz sc ts).eraseDups.length != (Xz sc ts).length)=true then some none
  else if(vs.all (foldedForSure 8))=true then some none
  else if(vs.all (constantsAlone 8))=true then none
  else some (some (Xz sc ts))
def J5(sc:Sc)(ts:List Expr)(agx:Expr):Option (Option (List Str)):=GA (M:=λ _=>Option (Option (List Str))) agx (λ vs _ _=>swT sc ts vs) (some none)
section
variable {α β:Type _}{env:Env}{sc:Sc}{ts vs:List Expr}{k k':Nat}{p p':Pos}{r:Option (List Str)}{agx:Expr}
theorem Lr{c:Prop}[Decidable c]{a b:Option α}{x y:β}{r:α}{g:α->β}(h:(if c then a else b)=some r)(h1:a=some r->x=g r)(h2:b=some r->y=g r):(if c then x else y)=g r:=by
 by_cases q:c
 .exact(if_pos q).trans (h1 ((if_pos q).symm.trans h))
 .exact(if_neg q).trans (h2 ((if_neg q).symm.trans h))
theorem Ls(cs:Cs env sc)(h:J5 sc ts (.Tuple vs k' p')=some r):swappedStores [.Tuple ts k p] (.Tuple vs k' p') env=pure r:=by
 have h:ite _ _ _=_:=h;unfold swappedStores;rw[ju cs];unfold Env.kindOf;rw[cs.names];show ite _ _ _=_;by_cases q:(!(ts.length==2 || ts.length==3) || vs.length != ts.length)=true
 .rw[if_pos q] at h;cases h;rw[q];rfl
 .rw[if_neg q] at h;rw[(Bool.not_eq_true _).mp q];refine(if_neg (by decide)).trans ?_;exact Lr (g:=λ r=>pure r) h (λ e=>congrArg _ (bD e)) λ h=>Lr (g:=λ r=>pure r) h (λ e=>congrArg _ (bD e)) λ h=>Lr (g:=λ r=>pure r) h (λ e=>congrArg _ (bD e)) λ h=>Lr (g:=λ r=>pure r) h (λ e=>nomatch e) λ e=>congrArg _ (bD e)
theorem Lu(hc:¬agx.ctorIdx=25):J5 sc ts agx=some none/\swappedStores [.Tuple ts k p] agx env=pure none:=by
 refine⟨dif_neg hc,?_⟩;cases agx<;>first|exact rfl|exact absurd rfl hc
theorem Bj(cs:Cs env sc)(h:J5 sc ts agx=some r):swappedStores [.Tuple ts k p] agx env=pure r:=by
 by_cases hc:agx.ctorIdx=25
 .exact Expr.Tuple.elim (motive_1:=λ v=>J5 sc ts v=some r->swappedStores [.Tuple ts k p] v env=pure r) agx hc (λ _ _ _ h=>Ls cs h) h
 .have q:=Lu (env:=env) (sc:=sc) (ts:=ts) (k:=k) (p:=p) hc;rw[q.1] at h;cases h;exact q.2
end
set_option backward.match.sparseCases false
section
variable {F:Fx}{Φ:Fz}{ρ:List Addr}{σ:ae}{fr aR:agq}{h:Heap}{s:Shared}{A:Around}
theorem SS.other{W:Wd}{h':Heap}(S:SS W F Φ ρ σ fr h)(hT:T≠F.env.locals/\(∀x,F.env.cells.lookup x≠some T)/\T∉ρ/\T∉cK F.l)(l6:Φ T=none)(hn:F.hs.get? T=none)(k:∀a o,a≠T->h.get? a=some o->h'.get? a=some o):SS W F Φ ρ σ fr h':=by
 haveI D:=Dy.other (sc:=F.sc) hT S.dy l6 k;exact⟨⟨D.inv,D.pZ,S.se.st.sQ hn k,S.se.pre⟩,D.eC,S.own⟩
theorem SS.len{W:Wd}(S:SS W F Φ ρ σ fr h):fr.length=F.sc.vars.length:=S.eC.len
theorem ax{W:Wd}(cs:Cs F.env F.sc)(S:SS W F Φ ρ σ fr s.heap){i:Nat}{id:Str}(hv:F.sc.isVar i id=true)(r:VR Φ ρ u v){Q:Unit->Shared->Prop}{E:Value->Shared->Prop}(hQ:∀h' k,SS W F Φ ρ σ (fr.set i (some v)) h'->Kp (own F.env) (cK F.l) s.heap h'->Q () { s with heap:=h',toks:=k}):wpAny (model W.prog W.w) A (storeName F.env id u) Q E s:=by
 haveI hx:=((Sc.dz hv)).1;haveI hc:=qe (sc:=F.sc) (env:=F.env) i id hx;exact vF cs S.dy hx r hc.1 hc.2 λ h' k D K=>hQ h' k (S.store D K) K
theorem aK{W:Wd}(S:SS W F Φ ρ σ fr h){id:Str}(hv:F.sc.isVar i id=true):i<fr.length:=by
 haveI hx:=((Sc.dz hv)).1;rw[S.len];exact(gi.mp hx).1
theorem zl{W:Wd}{n:Nat}{C:aG}{id:Str}{px pos:Pos}{agx:Expr}(hv:sc.isVar i id=true)(hn:t9 agx=true)(hw:Ei sc agx (.Name id px)=false)(hx:cS W n C sc x agx):sE W n C sc (.assign (.var i) x) (.Assign [.Name id px] agx pos):=by
 intro A F s Φ ρ σ fr hF cx S;subst hF;rw[cz];refine bg.of (λ Q E h=>wpAny_Assign_Name h (by rw[ua cx.cs hn,hw])) (bg.val (P2:=λ v Q E aL=>wpAny (model W.prog W.w) A (storeName F.env id v) (λ _=>Q .next) E aL) S (hx cx S.dy) λ u v aM Φ' h' k e S' r=>?_);refine bg.opt λ aR ha=>?_;simp only[Gh,gu,Option.ite_none_right_eq_some] at ha;refine dd ha λ _ ha=>?_;cases ha;exact bg.next λ Q E hQ=>ax (s:={ s with heap:=h',toks:=k}) cx.cs S' hv r λ cb k' w8 K=>hQ Φ' ρ cb k' w8 (.bind K)
theorem rj(t:Tg):c7 (λ _=>true) t=true:=by
 induction t using Tg.rec (motive_2:=λ ts=>mQ (λ _=>true) ts=true) with
 |var i=>rfl
 |tup ts ih=>(first|rw[Gy]|rw[Gz]);exact ih
 |nil=>rfl
 |cons t ts h1 h2=>simp only[Uw,h1,h2];rfl
theorem zm{W:Wd}{n:Nat}{C:aG}{pos:Pos}(ht:mz sc (.tup ts) (.Tuple es k0 px)=true)(hw:J5 sc es agx=some none)(hx:cS W n C sc x agx):sE W n C sc (.assign (.tup ts) x) (.Assign [.Tuple es k0 px] agx pos):=by
 intro A F s Φ ρ σ fr hF cx S;subst hF;rw[cz];refine bg.of (λ Q E h=>Assign_Tuple h jv (Bj cx.cs hw)) (bg.val (P2:=λ v Q E aL=>wpAny (model W.prog W.w) A (assign (.Tuple es k0 px) F.env v) (λ _=>Q .next) E aL) S (hx cx S.dy) λ u v aM Φ' h' k e S' r=>?_);refine bg.opt λ aR ha=>bg.next λ Q E hQ=>?_
 exact oV (.tup ts) _ ht (s:={ s with heap:=h',toks:=k}) (λ _=>true) cx S'.dy (rj _) (λ i _=>qe i) r ha λ cb k' D K=>hQ Φ' ρ cb k' (S'.store D K) (.bind K)
theorem unp{W:Wd}(I:Inv W Φ ρ σ s.heap)(r:VR Φ ρ u v)(hx:aE σ v=some (.tuple xs)\/aE σ v=some (.list xs))(hh:A.handled=none):∃vs,dF Φ vs xs/\∀{Q:List Value->Shared->Prop} {E:Value->Shared->Prop},(∀h',Heap.ExtBut s.heap.objs.size s.heap h'->Q vs { s with heap:=h'})->wpAny (model W.prog W.w) A (unpackItems u vs.length none) Q E s:=by
 rcases hx with hx|hx
 .refine bw ((I.aE r hx).tuple I.fe) λ a vs m z4 hg rs=>?_;obtain rfl:=z4;exact⟨vs,rs,λ h=>wpAny_unpackItems_tuple (items:=vs.toArray) hh ⟨_,hg,rfl,m,rfl⟩ h⟩
 .refine bw ((I.aE r hx).list I.fe) λ a vs m z4 hg rs=>?_;obtain rfl:=z4;exact⟨vs,rs,λ h=>kJ (items:=vs.toArray) hh ⟨_,hg,rfl,m,rfl⟩ h⟩
theorem HL(h:i8 σ [t,u] xs fr=some aR):∃x y,xs=[x,y]:=by
 obtain⟨x,_,_,rfl,_,h⟩:=kK h;obtain⟨y,zs,_,rfl,_,h⟩:=kK h;cases zs with
 |nil=>exact⟨x,y,rfl⟩
 |cons=>cases h
theorem Ej{W:Wd}{n:Nat}{C:aG}{es:List Expr}{k0:Nat}{px pos:Pos}{agx:Expr}(hi:sc.isVar i ub=true)(hj:sc.isVar j uc=true)(Zk:i≠j)(hw:J5 sc es agx=some (some [ub,uc]))(hx:cS W n C sc x agx):sE W n C sc (.assign (.tup [.var i,.var j]) x) (.Assign [.Tuple es k0 px] agx pos):=by
 intro A F s Φ ρ σ fr hF cx S;subst hF;rw[cz];refine bg.of (λ Q E h=>Assign_Tuple_swapped h jv (Bj cx.cs hw)) (bg.val (P2:=λ v Q E aL=>wpAny (model W.prog W.w) A (unpackItems v [ub,uc].length none) (λ items bB=>
   wpAny (model W.prog W.w) A (assignInOrder ([ub,uc].reverse.map λ n=>bindName F.env n) items.reverse) (λ _=>Q .next) E bB) E aL) S (hx cx S.dy) λ u v aM Φ' h' k e S' r=>?_)
 refine bg.opt λ aR ha=>bg.next λ Q E hQ=>?_
 refine aI (qf ha) λ xs AS ha=>?_
 .refine aI (unp (s:={ s with heap:=h',toks:=k}) S'.dy.inv r AS cx.handled) λ vs rs Vw=>?_;obtain⟨x1,x2,rfl⟩:=HL ha;obtain⟨v1,_,rfl,r1,rs⟩:=rs.i;obtain⟨v2,_,rfl,r2,rs⟩:=rs.i;obtain rfl:=rs.ni
  ·
   rw[tE (aK S' hi),tE (by rw[List.length_set];exact aK S' hj)] at ha;cases ha;refine Vw λ av hk=>?_;have l7:∀b o,h'.get? b=some o->av.get? b=some o:=λ b o q=>hk b o (dI (eE q)) q;refine ak (eD (wpAny_bindName (ax (s:={ s with heap:=av,toks:=k}) cx.cs (S'.step (agA.bo l7) (S'.dy.inv.ext l7)) hj (v:=.d x2) r2 λ aQ k₂ cT fM=>?_)));refine ak (eD (wpAny_bindName (ax (s:={ s with heap:=aQ,toks:=k₂}) cx.cs cT hi (v:=.d x1) r1 λ aO cM bF iC=>aF ?_)));rw[List.set_comm _ _ (Ne.symm Zk)] at bF;exact hQ Φ' ρ aO cM bF ((Mv.step (agA.bo l7)).trans ((Mv.bind fM).trans (Mv.bind iC)))
end
theorem v8{σ:ae}:∀{ts:List Tg} {xs:List PyData} {fr aR:agq},i8 σ ts xs fr=some aR->ts.length=xs.length
 |[],[],_,_,_=>rfl
 |[],_::_,_,_,h=>nomatch h
 |_::_,[],_,_,h=>nomatch h
 |t::ts,x::xs,fr,aR,h=>by
  refine cq (asg σ t (.d x) fr) (λ q=>?_) (λ f q=>?_)
  .rw[show i8 σ (t::ts) (x::xs) fr=(match asg σ t (.d x) fr with|some aR=>i8 σ ts xs aR|none=>none) from rfl,q] at h;cases h
  .rw[show i8 σ (t::ts) (x::xs) fr=(match asg σ t (.d x) fr with|some aR=>i8 σ ts xs aR|none=>none) from rfl,q] at h;exact congrArg (·+1) (v8 h)
theorem Zl{Φ:Fz}(h:xs.length=3)(r:dF Φ vs xs):∃x1 x2 x3 v1 v2 v3,vs=[v1,v2,v3]/\xs=[x1,x2,x3]/\RD Φ v1 x1/\RD Φ v2 x2/\RD Φ v3 x3:=by
 match xs,h,r with
 |[_,_,_],_,r=>obtain⟨_,_,_,rfl,r1,r2,r3⟩:=r.three;exact⟨_,_,_,_,_,_,rfl,rfl,r1,r2,r3⟩
theorem Ek{W:Wd}{n:Nat}{C:aG}{es:List Expr}{k0:Nat}{px pos:Pos}{agx:Expr}(hi:sc.isVar i ub=true)(hj:sc.isVar j uc=true)(hl:sc.isVar l HM=true)(Zk:i≠j)(hil:i≠l)(hjl:j≠l)(hw:J5 sc es agx=some (some [ub,uc,HM]))(hx:cS W n C sc x agx):sE W n C sc (.assign (.tup [.var i,.var j,.var l]) x) (.Assign [.Tuple es k0 px] agx pos):=by
 intro A F s Φ ρ σ fr hF cx S;subst hF;rw[cz];refine bg.of (λ Q E h=>Assign_Tuple_swapped h jv (Bj cx.cs hw)) (bg.val (P2:=λ v Q E aL=>wpAny (model W.prog W.w) A (unpackItems v [ub,uc,HM].length none) (λ items bB=>
   wpAny (model W.prog W.w) A (assignInOrder ([ub,uc,HM].reverse.map λ n=>bindName F.env n) items.reverse) (λ _=>Q .next) E bB) E aL) S (hx cx S.dy) λ u v aM Φ' h' k e S' r=>?_)
 refine bg.opt λ aR ha=>bg.next λ Q E hQ=>?_
 obtain⟨xs,AS,ha⟩:=qf ha
 .obtain⟨vs,rs,Vw⟩:=unp (s:={ s with heap:=h',toks:=k}) S'.dy.inv r AS cx.handled;obtain⟨x1,x2,x3,v1,v2,v3,rfl,rfl,r1,r2,r3⟩:=Zl ((v8 ha).symm) rs
  .skip
   rw[tE (aK S' hi),tE (by rw[List.length_set];exact aK S' hj),tE (by rw[List.length_set,List.length_set];exact aK S' hl)] at ha;cases ha;refine Vw λ av hk=>?_;have l7:∀b o,h'.get? b=some o->av.get? b=some o:=λ b o q=>hk b o (dI (eE q)) q;refine ak (eD (wpAny_bindName (ax (s:={ s with heap:=av,toks:=k}) cx.cs (S'.step (agA.bo l7) (S'.dy.inv.ext l7)) hl (v:=.d x3) r3 λ aQ k₂ cT fM=>?_)));refine ak (eD (wpAny_bindName (ax (s:={ s with heap:=aQ,toks:=k₂}) cx.cs cT hj (v:=.d x2) r2 λ aO cM bF iC=>?_)));refine ak (eD (wpAny_bindName (ax (s:={ s with heap:=aO,toks:=cM}) cx.cs bF hi (v:=.d x1) r1 λ gz Qd lI Qe=>aF ?_)));rw[List.set_comm _ _ (Ne.symm Zk),List.set_comm _ _ (Ne.symm hil),List.set_comm _ _ (Ne.symm hjl)] at lI;exact hQ Φ' ρ gz Qd lI ((Mv.step (agA.bo l7)).trans ((Mv.bind fM).trans ((Mv.bind iC).trans (Mv.bind Qe))))
theorem Res.nI{α β:Type}(R:Res α)(g:α->ae->Res β)(k:β->ae->XR):(R.bind g).then k=R.then λ a σ=>(g a σ).then k:=by cases R<;>rfl
section
variable {W:Wd}{F:Fx}{Φ Φ':Fz}{ρ:List Addr}{σ aM:ae}
theorem SE.gone{h:Heap}(S:SE W F Φ ρ σ h)(ha:h.get? a=none):F.hs.get? a=none:=by
 refine cq (F.hs.get? a) (λ e=>?_) (λ o e=>?_)
 .rfl
 .obtain⟨o',e'⟩:=S.st.kp.alive a o e;rw[ha] at e';cases e'
theorem xp{fr:agq}{s:Shared}{A:Around}{i k:Nat}{id:Str}{px:Pos}{Q:Shared->Prop}{E:Value->Shared->Prop}(cs:Cs F.env F.sc)(S:SS W F Φ ρ σ fr av)(hv:F.sc.isVar i id=true)(Z:DY W Φ ρ F.l F.env F.sc.vars fr av Dd Cc ys aM Φ' h')(h2:∀cW gz cM,SS W F cW ρ aM (fr.set i (some (.d (.list ys)))) gz->Mv F Φ ρ av cW ρ gz->Q { s with heap:=gz,toks:=cM}):wpAny (model W.prog W.w) A (assign (.Name id px) F.env (.ref Dd)) (λ _ Kn=>∃m,Kn.heap.Ns Cc m/\∀h',Heap.SameBut Cc Kn.heap h'->Q { Kn with heap:=h'}) E { s with heap:=h',toks:=k}:=by
 have aC:=S.dy.apart Z.hC Z.c1;refine pQ (Z.fe S.dy (Heap.SameBut.refl ..)) λ o c I St r=>?_;refine wpAny_assign_Name (ax (s:={ s with heap:=h',toks:=k}) cs (S.step St I) hv (v:=.d (.list ys)) r λ aO cM bF iC=>?_);refine bK Z.c3 λ mc UQ=>?_;have sS:¬own F.env Cc:=λ q=>q.elim aC.1 λ q=>q.elim aC.2.1;exact⟨mc,jk UQ λ o q=>iC.slots _ _ sS q,λ gz mA=>h2 _ gz cM (bF.other ⟨aC.1,aC.2.1,aC.2.2.1,aC.2.2.2.1⟩ c (S.se.gone Z.hC) λ a o Bk q=>(mA.2 a Bk).trans q) (((Mv.step St).trans (Mv.bind iC)).other Z.hC λ a o Bk q=>(mA.2 a Bk).trans q)⟩
end
theorem zo{W:Wd}{n:Nat}{C:aG}{sP:List Expr}{ee te ie:Expr}{pos Qf px:Pos}{i:Nat}{id:Str}(hv:sc.isVar i id=true)(hw:Ei sc (.ListComp ee [⟨te,ie,sP,0⟩] aa pos) (.Name id px)=true)(pK:fh sc aa=true)(lL:ef ie=true)(hit:cS W n C sc it ie)(hi:mU W n C (aq sc aa) ifs sP)(he:cS W n C (aq sc aa) elt ee)(ht:mz (aq sc aa) t te=true)(tH:c7 (bk (aq sc aa)) t=true)(AX:ifs=[]->sP=[]):sE W n C sc (.assign (.var i) (.comp aa.names.length elt t it ifs)) (.Assign [.Name id px] (.ListComp ee [⟨te,ie,sP,0⟩] aa pos) Qf):=by
 intro A F s Φ ρ σ fr hF cx S;subst hF;have iJ:=hY pK;refine gp (js (env:=F.env) (kN cx S.dy iJ)) λ cl qk oX vf=>?_
 (first|rw[cz,pV,Res.nI]|rw[cz,nF,Res.nI])
 refine bg.of (P':=λ Q E s=>wpAny (model W.prog W.w) A (eval ie F.env) (λ x aL=>J0 W A aa F.env cl (.ListComp ee [⟨te,ie,sP,0⟩] aa pos) (compPost (model W.prog W.w) A E (some (assign (.Name id px) F.env)) (λ _ s'=>Q .next s')) E x aL) E s) (λ Q E h=>?_) ?_
 .rw[exec_Assign_Name_used _ _ _ _ (by rw[ua cx.cs rfl,hw])];refine ak (gH (ak ?_));show wpAny _ A (do let _ ←comprehension (.ListComp ee [⟨te,ie,sP,0⟩] aa pos) aa F.env _ (newList []) false (eval ie F.env) (some (assign (.Name id px) F.env))) _ _ s;exact ak (cj (wpAny_comprehension_free (use:=some (assign (.Name id px) F.env)) (Q:=λ _ s'=>Q .next s') rfl (λ x=>dT lL x) qk iJ.kind (λ x hx hl=>dv iJ.nodup (by rw[←hl];exact hx)) h)
   (λ _ s' hq=>aF (aF hq)) λ _ _ e=>e)
 .refine bg.val (P2:=λ x Q E aL=>J0 W A aa F.env cl (.ListComp ee [⟨te,ie,sP,0⟩] aa pos) (compPost (model W.prog W.w) A E (some (assign (.Name id px) F.env)) (λ _ s'=>Q .next s')) E x aL) S (hit cx S.dy) λ u x aX cJ av k₁ oU aW dY=>?_;have hW:=aW.dy;cases x with
  |loc m=>
   dsimp only;cases AS:rV aX m with
   |none=>exact .stuck
   |some xs=>
   simp only[Res.bx,Res.ax];by_cases hc:(agF elt&&ifs.isEmpty)=true/\xs.length<=lim
   .rw[if_pos hc];refine dd hc λ hc agw=>?_;haveI hp:=((cf hc)).1;haveI Xp:=((cf hc)).2;obtain rfl:=agX Xp;obtain rfl:=AX rfl;intro Q E cG h2 h3 h4;have e7:=aK S hv;obtain⟨a,ha,rfl⟩:=dY;haveI eP:=vR AS;obtain⟨vs,nn,hg,rs⟩:=hW.inv.cell m a _ ha eP;haveI gP:av.get? av.objs.size=none:=Heap.br _;haveI ap:=Dy.alive (sc:=F.sc) hW gP;refine wpAny_pyIter_list (s:={ s with heap:=av,toks:=k₁}) ⟨_,hg,rfl,nn,rfl⟩ ?_;refine vQ (s:={ s with heap:=av,toks:=k₁}) (C:=C) (elt:=elt) (t:=t) (J:=PO aX m a av.objs.size) (items:=xs) cx iJ oX vf he ht tH hp hW (CD ha ap.2.2.1 ap.2.2.2) (λ aQ kk=>⟨xs,0,eP,rfl,hW.inv.bp gP,_,kk _ _ (d5 _ rfl),rfl,rfl⟩)
     (λ kk hQ=>wpAny_pyIter_listiter (l:=a) (i:=0) ⟨_,kk _ _ (d5 _ rfl),rfl,rfl⟩ hQ) agw ?_ ?_
    .intro q;refine cG ?_;show((aA (pF W.G C t elt (fr++List.replicate aa.names.length none)) xs aX).bind _).then _=_;rw[q];rfl
    .exact λ Dd Cc ys Φ' h' k e' Z=>xp cx.cs aW hv Z λ cW gz cM S M=>h2 _ aX cW ρ gz cM (by
      show((aA (pF W.G C t elt (fr++List.replicate aa.names.length none)) xs aX).bind _).then _=_;rw[e'];simp only[Res.ax,Res.gW,Gh,gu,e7,if_true,Res.bx]) S M
   .rw[if_neg hc];exact .stuck
  |d x=>
  dsimp only;cases hx:agt x with
  |none=>exact .stuck
  |some items=>
  simp only[Res.bx,Res.ax];by_cases agw:items.length<=lim
  .rw[if_pos agw];intro Q E cG h2 h3 h4;have e7:=aK S hv;refine yT (s:={ s with heap:=av,toks:=k₁}) (C:=C) (ifs:=ifs) (elt:=elt) (t:=t) cx iJ oX vf hi he ht tH hW dY hx agw ?_ ?_ ?_
   .intro q;refine cG ?_;show((aA (gL W.G C t ifs elt (fr++List.replicate aa.names.length none)) items aX).bind _).then _=_;rw[q];rfl
   .exact λ Dd Cc ys aM Φ' h' k e' Z=>xp cx.cs aW hv Z λ cW gz cM S M=>h2 _ aM cW ρ gz cM (by
     show((aA (gL W.G C t ifs elt (fr++List.replicate aa.names.length none)) items aX).bind _).then _=_;rw[e'];simp only[Res.ax,Res.gW,Gh,gu,e7,if_true,Res.bx]) S M
   .intro Dd Cc e aM Φ' h' k e' hC D' GQ c1 c2 T';refine⟨_,c2.choose_spec,λ cb mA aZ _=>?_⟩;haveI aC:=hW.apart hC c1;haveI KS:Dy W Φ' ρ aM F.l F.env F.sc.vars fr cb:=D'.other ⟨aC.1,aC.2.1,aC.2.2.1,aC.2.2.2.1⟩ c1 λ a o eZ q=>(mA.2 a eZ).trans q;have xh:=GQ.sQ hC λ a o eZ q=>(mA.2 a eZ).trans q;refine CB (s:={ s with heap:=cb,toks:=k}) (h:=av) KS.inv KS.pZ xh.kp (T'.sameBut mA c2) λ aO fE iC ql=>?_;refine h4 e aM Φ' ρ aO k ?_ (aW.se.step ⟨xh.ext,xh.fresh,iC⟩ fE) (ql.back aW.se.st.kp.alive);show((aA (gL W.G C t ifs elt (fr++List.replicate aa.names.length none)) items aX).bind _).then _=_;rw[e'];rfl
  .rw[if_neg agw];exact .stuck
theorem xq{W:Wd}{n:Nat}{C:aG}{ee mf mB og jO:Expr}{pos Qf px:Pos}{i:Nat}{id:Str}(hv:sc.isVar i id=true)(hw:Ei sc (.ListComp ee [⟨mf,mB,[],0⟩,⟨og,jO,[],0⟩] aa pos) (.Name id px)=true)(pK:fh sc aa=true)(G5:ef mB=true)(yX:ef jO=true)(hit:cS W n C sc qQ mB)(xi:cS W n C (aq sc aa) it2 jO)(he:cS W n C (aq sc aa) elt ee)(A0:mz (aq sc aa) t1 mf=true)(vg:c7 (bk (aq sc aa)) t1=true)(D0:mz (aq sc aa) t2 og=true)(vh:c7 (bk (aq sc aa)) t2=true)(hd:lD t1 t2=true):sE W n C sc (.assign (.var i) (.fY aa.names.length elt t1 qQ t2 it2)) (.Assign [.Name id px] (.ListComp ee [⟨mf,mB,[],0⟩,⟨og,jO,[],0⟩] aa pos) Qf):=by
 intro A F s Φ ρ σ fr hF cx S;subst hF;haveI iJ:=hY pK;refine gp (js (env:=F.env) (kN cx S.dy iJ)) λ cl qk oX vf=>?_
 (first|rw[cz,pV,Res.nI]|rw[cz,nF,Res.nI])
 refine bg.of (P':=λ Q E s=>wpAny (model W.prog W.w) A (eval mB F.env) (λ x aL=>J0 W A aa F.env cl (.ListComp ee [⟨mf,mB,[],0⟩,⟨og,jO,[],0⟩] aa pos) (compPost (model W.prog W.w) A E (some (assign (.Name id px) F.env)) (λ _ s'=>Q .next s')) E x aL) E s) (λ Q E h=>?_) ?_
 .rw[exec_Assign_Name_used _ _ _ _ (by rw[ua cx.cs rfl,hw])];refine ak (gH (ak ?_));show wpAny _ A (do let _ ←comprehension (.ListComp ee [⟨mf,mB,[],0⟩,⟨og,jO,[],0⟩] aa pos) aa F.env _ (newList []) false (eval mB F.env) (some (assign (.Name id px) F.env))) _ _ s;exact ak (cj (wpAny_comprehension_free (use:=some (assign (.Name id px) F.env)) (Q:=λ _ s'=>Q .next s') rfl (λ x=>dT G5 x) qk iJ.kind (λ x hx hl=>dv iJ.nodup (by rw[←hl];exact hx)) h)
   (λ _ s' hq=>aF (aF hq)) λ _ _ e=>e)
 .refine bg.val (P2:=λ x Q E aL=>J0 W A aa F.env cl (.ListComp ee [⟨mf,mB,[],0⟩,⟨og,jO,[],0⟩] aa pos) (compPost (model W.prog W.w) A E (some (assign (.Name id px) F.env)) (λ _ s'=>Q .next s')) E x aL) S (hit cx S.dy) λ u x aX cJ av k₁ oU aW dY=>?_;haveI hW:=aW.dy;cases x with
  |loc=>exact .stuck
  |d x=>
  dsimp only;cases hx:agt x with
  |none=>exact .stuck
  |some items=>
  simp only[Res.bx,Res.ax];by_cases hc:(agF it2&&agF elt)=true/\items.length<=1000
  .rw[if_pos hc];refine dd hc λ hc agw=>?_;haveI NU:=((cf hc)).1;haveI hp:=((cf hc)).2;intro Q E cG h2 h3 h4;haveI e7:=aK S hv;refine vS (s:={ s with heap:=av,toks:=k₁}) (C:=C) (elt:=elt) (it2:=it2) (t1:=t1) (t2:=t2) cx iJ oX vf yX xi he A0 vg D0 vh hd NU hp hW dY hx agw ?_ ?_
   .intro q;refine cG ?_;show((agz (oF W.G C t1 it2 t2 elt (fr++List.replicate aa.names.length none)) items aX).bind _).then _=_;rw[q];rfl
   .exact λ Dd Cc ys Φ' h' k e' Z=>xp cx.cs aW hv Z λ cW gz cM S M=>h2 _ aX cW ρ gz cM (by
     show((agz (oF W.G C t1 it2 t2 elt (fr++List.replicate aa.names.length none)) items aX).bind _).then _=_;rw[e'];simp only[Res.ax,Res.gW,Gh,gu,e7,if_true,Res.bx]) S M
  .rw[if_neg hc];exact .stuck
section
variable {Φ:Fz}{ρ:List Addr}{W:Wd}{F:Fx}{σ:ae}{fr:agq}{h:Heap}{A:Around}{R:Res β}{ck i n:Nat}{C:aG}{es:List Expr}{Zm fn id R1 msg nm:Str}{ap cp dp ep fp hp lp pos px sp:Pos}{ke agx ve:Expr}
theorem VR.more:∀{v:V},VR Φ ρ u v->VR Φ (ρ++[a]) u v
 |.d _,r=>r
 |.loc n,⟨b,hb,e⟩=>⟨b,by rw[i0 (gi.mp hb).1];exact hb,e⟩
theorem SS.xr{h':Heap}(S:SS W F Φ ρ σ fr h)(k:∀a o,h.get? a=some o->h'.get? a=some o)(ha:h.get? a=none)(hc:lB W Φ h' a c):SS W F Φ (ρ++[a]) (σ++[c]) fr h':=by
 haveI D:=S.dy;have hn:a∉ρ:=λ q=>by obtain⟨o,e⟩:=D.inv.live q;rw[ha] at e;cases e
 have S':=S.step (agA.bo k) (D.inv.ext k);have ne:∀b o,h.get? b=some o->b≠a:=λ b o e q=>by rw[q,ha] at e;cases e
 refine⟨⟨⟨S'.se.inv.base,S'.se.inv.fe,by simp[D.inv.len],λ i b x h1 h2=>?_,?_,λ b hb=>?_⟩,λ env he=>?_,S'.se.st,?_⟩,⟨S'.eC.ns,S'.eC.JQ,?_,λ x b hb=>?_,S'.eC.inj,λ i x hx=>?_,S'.eC.nodup,S'.eC.len⟩,S.own⟩
 .by_cases hi:i<ρ.length
  .rw[i0 hi] at h1;rw[i0 (by rw[←D.inv.len];exact hi)] at h2;exact S'.se.inv.cell i b x h1 h2
  .rw[ot (by exact jI hi)] at h1;rw[ot (by rw[←D.inv.len];exact jI hi),←D.inv.len] at h2;haveI h0:i - ρ.length=0:=by
    rcases Nat.eq_zero_or_pos (i - ρ.length) with q|q
    .exact q
    .rw[List.getElem?_eq_none (by simp;lia)] at h1;cases h1
   rw[h0] at h1 h2;simp at h1 h2;subst h1;subst h2;exact hc
 .rw[List.nodup_append];exact⟨D.inv.nodup,by simp,λ b hb c hc=>by simp at hc;subst hc;rintro rfl;exact hn hb⟩
 .rcases bX.mp hb with q|q
  .exact S'.se.inv.apart b q
  .simp at q;subst q;exact D.inv.bp ha
 .obtain⟨k',L',o,p1,p2,p3,p4,p5⟩:=S'.se.pZ env he;obtain⟨_,adK,Zc,q1,q2,_⟩:=S.se.pZ env he;rw[p1] at q1;cases q1;exact⟨k',L',o,p1,p2,p3,p4,λ q=>by rcases bX.mp q with q|q;exact p5 q;simp at q;exact ne _ _ q2 q⟩
 .refine aI S.se.pre λ r hr hh=>?_;refine⟨r++[a],by rw[hr];simp,λ b hb=>?_⟩;rcases bX.mp hb with q|q
  .exact hh b q
  .simp at q;subst q;exact S.se.gone ha
 .obtain⟨m,o,_,_,e,_⟩:=S.eC.ns;intro q;rcases bX.mp q with q|q
  .exact S'.eC.yI q
  .simp at q;exact ne _ _ e q
 .refine oM (S'.eC.cell x b hb) λ a1 a2 a3 a4=>?_;haveI z1:=((S.eC.cell x b hb)).1;obtain⟨ov,o,e,_⟩:=z1;exact⟨a1,a2,λ q=>by rcases bX.mp q with q|q;exact a3 q;simp at q;exact ne _ _ e q,a4⟩
 .refine aI (S'.eC.val i x hx) λ ov hh hr=>?_;exact⟨ov,hh,λ v hv=>let⟨u,e,r⟩:=hr v hv;⟨u,e,r.more⟩⟩
theorem xt(S:SS W F Φ ρ σ fr h)(a:Addr):VR Φ (ρ++[a]) (.ref a) (.loc σ.length):=⟨a,by rw[←S.se.inv.len];simp,rfl⟩
theorem Inv.setCell{h':Heap}(I:Inv W Φ ρ σ h)(ha:ρ[i]?=some a)(hs:Heap.SameBut a h h')(hc:lB W Φ h' a c):Inv W Φ ρ (σ.set i c) h':=by
 have hm:a∈ρ:=dH ha;refine⟨I.base,λ b o e=>(hs.2 b λ q=>by rw[q,I.apart a hm] at e;cases e).trans (I.fe b o e),by simp[I.len],λ j b x h1 h2=>?_,I.nodup,I.apart⟩;by_cases hj:j=i
 .subst hj;rw[ha] at h1;cases h1;rw[List.getElem?_set_self'] at h2;refine cq (σ[j]?) (λ q=>?_) (λ y q=>?_)
  .rw[q] at h2;cases h2
  .rw[q] at h2;simp at h2;subst h2;exact hc
 .rw[List.getElem?_set_ne (Ne.symm hj)] at h2;have:b≠a:=by
   rintro rfl;exact hj ((List.getElem?_inj (gi.mp h1).1 I.nodup).mp (h1.trans ha.symm))
  exact(I.cell j b x h1 h2).mono (λ _ _ q=>q) λ o q=>(hs.2 b this).trans q
theorem SS.setCell{h':Heap}(S:SS W F Φ ρ σ fr h)(ha:ρ[i]?=some a)(hs:Heap.SameBut a h h')(hc:lB W Φ h' a c):SS W F Φ ρ (σ.set i c) fr h':=
 S.step ⟨λ _ _ e=>e,λ _ _ _=>rfl,.sameBut hs (.inl (dH ha)) hc.alive⟩ (S.se.inv.setCell ha hs hc)
theorem bg.Zn{Rel:Fz->α->β->Prop}{P2:α->(Flow->Shared->Prop)->(Value->Shared->Prop)->Shared->Prop}{g:β->ae->XR}(S:SS W F Φ ρ σ fr s.heap)(H:pY W A F.l F.L ρ t Φ s R Rel)(H2:∀a b aM Φ' h' k,R=.ok b aM->SS W F Φ' ρ aM fr h'->agA ρ (cK F.l) Φ s.heap Φ' h'->Rel Φ' a b->bg W F (P2 a) Φ' ρ { s with heap:=h',toks:=k} (g b aM)):bg W F (λ Q E s=>wpAny (model W.prog W.w) A t (λ a s'=>P2 a Q E s') E s) Φ ρ s (R.then g):=by
 intro Q E h1 h2 h3 h4;refine H _ _ (λ q=>h1 (by rw[q];rfl)) (λ a b aM Φ' h' k e I St r=>?_) λ x aM Φ' h' k e I St T=>h4 x aM Φ' ρ h' k (by rw[e];rfl) (S.se.step St I) (T.back S.se.st.kp.alive);subst e;exact H2 a b aM Φ' h' k rfl (S.step St I) St r Q E h1 (λ aR dS cW iD cb fS e S' M=>h2 aR dS cW iD cb fS e S' ((Mv.step St).trans M)) (λ u v dS cW iD cb fS e=>h3 u v dS cW iD cb fS e) λ x dS cW iD cb fS e=>h4 x dS cW iD cb fS e
theorem Mv.set{h':Heap}(ha:ρ[i]?=some a)(hs:Heap.SameBut a h h')(hl:∃o,h'.get? a=some o):Mv F Φ ρ h Φ ρ h':=
 Mv.step ⟨λ _ _ e=>e,λ _ _ _=>rfl,.sameBut hs (.inl (dH ha)) hl⟩
theorem HN(hv:sc.isVar i id=true)(hl:xs.length<=1000)(hs:Lk W n C sc xs es):sE W n C sc (.oN i xs) (.Assign [.Name id px] (.List es lp) pos):=by
 intro A F s Φ ρ σ fr hF cx S;subst hF;rw[ja];haveI e7:=aK S hv;refine bg.of (λ Q E h=>wpAny_Assign_Name (wpAny_List h) (by rfl)) (bg.val S (hs lp cx S.dy) λ vs ys aM Φ' h' k e S' r=>?_);refine bg.opt λ ds hd=>?_;rw[if_pos e7];refine bg.next λ Q E hQ=>?_
 have agw:=jL e;haveI:=r.length;refine⟨by rw[jK];exact FR this agw hl rfl,?_⟩;haveI w8:=S'.xr (c:=.lst ds) (bY h' (dE vs 0)) (Heap.br _) ⟨vs,0,d5 h' (o:=dE vs 0) rfl,r.fQ hd⟩;exact ax (s:={ s with heap:=h'.push (dE vs 0),toks:=k}) cx.cs w8 hv (xt S' _) λ aO cM bF iC=>hQ Φ' _ aO cM bF ((Mv.cell (bY h' _) (Heap.br _)).trans (.bind iC))
theorem El(B:agY W){x:Expr}(hv:sc.isVar i id=true)(hg:sc.c6 fn=true)(Vx:fn=("list" : Str))(u7:agB x=true)(ha:cS W n C sc a x):sE W n C sc (.newOf i a) (.Assign [.Name id px] (.Call (.Name fn fp) [x] [] cp) pos):=by
 intro A F s Φ ρ σ fr hF cx S;subst hF;subst Vx;haveI Az:=(Sc.bj hg).1;haveI vE:=(Sc.bj hg).2;rw[fZ];haveI e7:=aK S hv;refine bg.of (λ Q E h=>wpAny_Assign_Name (cX (eJ B cx S.dy.inv Az B.list.1 B.list.2 vE (by rw[fN u7];exact lF h))) (by rfl)) (bg.val (P2:=λ v Q E aL=>wpAny (model W.prog W.w) A (call (.type "list") [v]) (λ v aL=>wpAny (model W.prog W.w) A (storeName F.env id v) (λ _=>Q .next) E aL) E aL) S (ha cx S.dy) λ u v aM Φ' h' k e S' r=>?_);refine bg.opt λ d hd=>bg.opt λ ds w9=>bg.ite (λ hl=>bg.next λ Q E hQ=>?_) λ _=>.stuck;refine vJ (s:={ s with heap:=h',toks:=k}) (l:=F.l) (h':=h') (k:=0) S'.dy.inv (S'.dy.inv.aE r hd) w9 hl.2 λ av vs m hk ho rs=>?_;haveI w8:=S'.xr (c:=.lst ds) hk (Heap.br _) ⟨vs,m,ho,rs⟩;exact ax (s:={ s with heap:=av,toks:=k}) cx.cs w8 hv (xt S' _) λ aO cM bF iC=>hQ Φ' _ aO cM bF ((Mv.cell hk (Heap.br _)).trans (.bind iC))
theorem HO(hv:sc.isVar i id=true):sE W n C sc (.wO i) (.Assign [.Name id px] (.Dict [] [] dp) pos):=by
 intro A F s Φ ρ σ fr hF cx S;subst hF
 (first|rw[cz,if_pos (aK S hv)]|rw[ja,if_pos (aK S hv)]|rw[fZ,if_pos (aK S hv)]|rw[kG,if_pos (aK S hv)]|rw[jc,if_pos (aK S hv)]|rw[ly,if_pos (aK S hv)]|rw[je,if_pos (aK S hv)]|rw[lz,if_pos (aK S hv)]|rw[hH,if_pos (aK S hv)]|rw[jf,if_pos (aK S hv)]|rw[jg,if_pos (aK S hv)]|rw[lA,if_pos (aK S hv)]|rw[gO,if_pos (aK S hv)]|rw[kH,if_pos (aK S hv)]|rw[jh,if_pos (aK S hv)])
 refine bg.next λ Q E hQ=>wpAny_Assign_Name (wpAny_Dict_empty ?_) (by rfl)
 haveI w8:=S.xr (c:=.dct []) (bY s.heap _) (Heap.br _) ⟨[],Heap.DictOf.new (knd:=strKind W.prog W.w) s.heap,.nil⟩;exact ax (s:={ s with heap:=s.heap.push _}) cx.cs w8 hv (xt S _) λ aO cM bF iC=>hQ Φ _ aO cM bF ((Mv.cell (bY s.heap _) (Heap.br _)).trans (.bind iC))
theorem HP(hn:CQ e=true)(hx:cS W n C sc x e):sE W n C sc (.expr x) (.Expr e pos):=by
 intro A F s Φ ρ σ fr hF cx S;subst hF;rw[je];haveI hi:interactive F.env=false:=by unfold interactive;rw[cx.kind];rfl
 haveI hs:swapsWith e none pos.line F.env=pure false:=by cases e<;>first|rfl|cases hn
 refine bg.of (λ Q E h=>wpAny_Expr_any h hi hs) (bg.val (P2:=λ _ Q E s'=>Q .next s') S (hx cx S.dy) λ u v aM Φ' h' k e S' r=>bg.next λ Q E hQ=>hQ Φ' ρ h' k S' .refl)
theorem Lv{e:Expr}(hv:sc.isVar i id=true)(XA:nm=("append" : Str))(u7:agB e=true)(Vy:(ap.endLine==cp.line)=true)(hx:cS W n C sc x e):sE W n C sc (.app i x) (.Expr (.Call (.Attribute (.Name id px) nm ap) [e] [] cp) pos):=by
 intro A F s Φ ρ σ fr hF cx S;subst hF;subst XA;rw[ly];have hi:interactive F.env=false:=by unfold interactive;rw[cx.kind];rfl
 haveI Az:=(Sc.dz hv).1;haveI vE:=(Sc.dz hv).2;generalize nG:fr[i]?=o;induction o with
 |none=>exact .stuck
 |some o=>
 induction o with
 |none=>exact .stuck
 |some v=>
 induction v with
 |d _=>exact .stuck
 |loc m=>
  dsimp only;generalize eP:σ[m]?=o;induction o with
  |none=>exact .stuck
  |some c=>
  induction c with
  |dct _=>exact .stuck
  |lst abY=>
   refine bg.of (P':=λ Q E s=>wpAny (model W.prog W.w) A (eval (.Name id px) F.env) (λ ov aL=>∃D its,ov=.ref D/\PlainL aL.heap D its /\
    wpAny (model W.prog W.w) A (eval e F.env) (λ y bB=>wpAny (model W.prog W.w) A (call (.builtin "list.append") [.ref D,y]) (λ _=>Q .next) E bB) E aL) E s)
    (λ Q E h=>wpAny_Expr_any (wpAny_Call_append rfl (by rw[fN u7];rfl) Vy (fN u7) h) hi (by rfl)) ?_
   intro Q E h1 h2 h3 h4;refine wpAny_Name (p8 cx S.dy Az nG λ u hu=>?_) vE;obtain⟨a,ha,rfl⟩:=hu;obtain⟨Vz,m₀,VA,_⟩:=S.se.inv.cell m a _ ha eP;refine⟨a,Vz.toArray,rfl,⟨_,m₀,VA,rfl,rfl,rfl⟩,?_⟩;refine bg.val (P2:=λ y Q E bB=>wpAny (model W.prog W.w) A (call (.builtin "list.append") [.ref a,y]) (λ _=>Q .next) E bB) S (hx cx S.dy) (λ u v aM Φ' h' k e S' r=>?_) Q E h1 h2 h3 h4;induction v with
   |loc _=>exact .stuck
   |d z=>
   generalize Zo:aM[m]?=o;induction o with
   |none=>exact .stuck
   |some c=>
   induction c with
   |dct _=>exact .stuck
   |lst xs=>
    refine bg.ite (λ hl=>bg.next λ Q E hQ=>?_) λ _=>.stuck;obtain⟨vs,mm,hg,rs⟩:=S'.se.inv.cell m a _ ha Zo;have:=rs.length
    refine wpAny_list_append_plain (s:={ s with heap:=h',toks:=k}) (items:=vs.toArray) ⟨mm,hg⟩ (λ iQ vM jN=>?_) (by have:=jj;simp only[List.size_toArray];with_reducible exact s6 ‹_› hl rfl);obtain⟨m',em⟩:=agP vM;exact hQ Φ' ρ iQ k (S'.setCell ha jN ⟨_,m',em,rs.append (.cons r .nil)⟩) (Mv.set ha jN ⟨_,em⟩)
theorem ahc(r:PR Φ ws fc)(hk:(fc.lookup k).isNone=true)(u:Value):stored ws k u=ws++[(k,u)]:=by
 haveI:ws.any (λ kv=>kv.1=k)=false:=by
  induction r with
  |nil=>rfl
  |cons e _ ih=>
   rename_i k' v x ws fc hpr;rw[List.lookup_cons] at hk;refine mH (k==k') (λ hq=>?_) (λ hq=>?_)
   .rw[hq] at hk;cases hk
   ·
    rw[hq] at hk;haveI eZ:k'≠k:=λ q=>by rw[q] at hq;simp at hq
    simp only[List.any_cons,eZ,decide_false,Bool.false_or];exact ih hk
 unfold stored;rw[if_neg (by simp[this])]
theorem PR.snoc(r:PR Φ ws fc)(hu:RD Φ u x):PR Φ (ws++[(k,u)]) (fc++[(k,x)]):=by
 induction r with
 |nil=>exact .cons hu .nil
 |cons e _ ih=>exact .cons e ih
theorem HQ(hv:sc.isVar i id=true)(hk:cS W n C sc k ke)(hx:cS W n C sc v ve):sE W n C sc (.u4 i k v) (.Assign [.Subscript (.Name id px) ke sp] ve pos):=by
 intro A F s Φ ρ σ fr hF cx S;subst hF;haveI Az:=(Sc.dz hv).1;haveI vE:=(Sc.dz hv).2;rw[jc];refine bg.of (λ Q E h=>wpAny_Assign_Subscript h (by cases ve<;>rfl)) (bg.val (P2:=λ v Q E aL=>wpAny (model W.prog W.w) A (eval (.Name id px) F.env) (λ ov bB=>wpAny (model W.prog W.w) A (eval ke F.env) (λ iv dj=>
   wpAny (model W.prog W.w) A (setItem ov iv v) (λ _=>Q .next) E dj) E bB) E aL) S (hx cx S.dy) λ u x aM Φ' h' k' e S' r=>?_)
 induction x with
 |loc _=>exact .stuck
 |d x=>
 generalize nG:fr[i]?=o;induction o with
 |none=>exact .stuck
 |some o=>
 induction o with
 |none=>exact .stuck
 |some y=>
 induction y with
 |d _=>exact .stuck
 |loc m=>
  intro Q E h1 h2 h3 h4;refine wpAny_Name (p8 (s:={ s with heap:=h',toks:=k'}) cx S'.dy Az nG λ w hw=>?_) vE;obtain⟨a,ha,rfl⟩:=hw;refine bg.Zn (s:={ s with heap:=h',toks:=k'}) (P2:=λ iv Q E dj=>wpAny (model W.prog W.w) A (setItem (.ref a) iv u) (λ _=>Q .next) E dj) S' (hk cx S'.dy) (λ kv ky dG ff aQ k₂ AN cT zj jq=>?_) Q E h1 h2 h3 h4;induction ky with
  |loc _=>exact .stuck
  |d q=>
  cases q with
  |str key=>
   generalize eP:dG[m]?=o;induction o with
   |none=>exact .stuck
   |some c=>
   induction c with
   |lst _=>exact .stuck
   |dct fc=>
   refine bg.ite (λ hl=>bg.next λ Q E hQ=>?_) λ _=>.stuck;obtain⟨t,rfl,adM⟩:=RD.i jq;obtain⟨ws,JV,pr⟩:=cT.se.inv.cell m a _ ha eP;haveI agw:=pr.length;haveI qS:ws.length<=sizeLine:=by have:=jj;rw[agw];exact M6 hl rfl
   refine wpAny_setItem_pairs (s:={ s with heap:=aQ,toks:=k₂}) (knd:=strKind W.prog W.w) (k:=key) (strKind_is ..) JV (λ aO hm jP=>?_) qS;rw[ahc pr hl.1] at hm;exact hQ ff ρ aO _ (cT.setCell ha jP ⟨_,hm,pr.snoc (RD.mono zj.ext r)⟩) (Mv.set ha jP (let⟨o,_,_,e,_⟩:=hm;⟨o,e⟩))
  |_=>exact .stuck
theorem Lw:isSubtype (.type ((Manifest.find? "ValueError").elim "type" λ x=>x.metatype)) (.type "tuple")=pure false:=by rw[isSubtype_type];kernel_rfl
theorem Lx:isSubtype (.type "ValueError") (.type "ValueError")=pure true:=by rw[isSubtype_type];kernel_rfl
theorem Em(B:agY W){sc:Sc}(hg:sc.c6 id=true)(GG:id=("ValueError" : Str)):sE W n C sc .raise (.Raise (some (.Call (.Name id np) [.Constant (.str msg) k mp] [] cp)) none pos):=by
 intro A F s Φ ρ σ fr hF cx S;subst hF;subst GG;haveI hv:=((Sc.bj hg)).1;haveI hd:=((Sc.bj hg)).2;rw[gO];intro Q E _ _ _ h4;refine wpAny_Raise_call PySem.F.excCall_ValueError PySem.F.excRaise_ValueError cx.handled (by rw[fN rfl];rfl) (eJ B cx S.dy.inv hv B.jm.1 B.jm.2 hd ⟨rfl,?_⟩);rw[fN rfl];refine Calls.evalArgs_plain (Calls.spliced_cons (wpAny_Constant_str (Calls.spliced_nil ⟨rfl,by rw[jK];simp,λ h' e hm=>?_⟩)));refine h4 e σ Φ ρ h' _ rfl (S.se.step (agA.bo hm.keeps) (S.se.inv.ext hm.keeps)) ?_;letI t:=(hm.there).choose;haveI ht:=((hm.there).choose_spec).1;exact⟨(S.se.gone hm.new),S.se.inv.bp hm.new,(λ q=>by obtain⟨o,e'⟩:=S.se.inv.live q;have hz:=hm.new;rw[e'] at hz;cases hz),_,_,ht,rfl,rfl,.none rfl rfl⟩
theorem ud{s:Shared}{X:Addr->Prop}{Q:Unit->Shared->Prop}{E:Value->Shared->Prop}(fl:Option Addr)(SO:bh l Φ ρ s.heap)(I:Inv W Φ ρ σ s.heap)(St:Kp X (cK l) h s.heap)(T:bA Φ ρ L h s.heap e false)(hQ:∀cb,Inv W Φ ρ σ cb->Kp X (cK l) h cb->bh l Φ ρ cb->bA Φ ρ L h cb e false->Q () { s with heap:=cb}):wpAny (model W.prog W.w) A (setFlight (.ref e) fl) Q E s:=by
 haveI T':=T;obtain⟨new,fz,out,oe,vs,he,hc,hd,tb⟩:=T;cases tb with
 |none q h1=>
  unfold setFlight;refine ak (wpAny_field he hd h1 ?_);rw[if_neg (by decide)];exact aF (hQ s.heap I St SO T')
 |some h1 DO yD Kl Km hT yE h3=>
  rename_i T oT ts;have RO:3<ts.size:=by rcases h3 with h3|⟨_,y,h3⟩<;>exact(mC.mp h3).1
  unfold setFlight;refine ak (wpAny_field he hd h1 ?_);rw[if_pos (show(Value.ref T != Value.none)=true from by simp)];refine wpAny_setField hT yE RO ?_;have Uo:T∉cK l:=λ hm=>by
   refine pP (SO.mem hm) λ _ _ o ho Kj=>?_;rw[hT] at ho;cases ho;exact Kj ts yE
  generalize RP:fl.elim Value.none (λ f=>rawInt f)=mk;haveI rW:=Heap.get?_update_self (Obj.mapFields (·.setIfInBounds 3 mk)) hT (Obj.isFreed_of_fields (Obj.data_mapFields yE _));have other:∀b,b≠T->(s.heap.update T (Obj.mapFields (·.setIfInBounds 3 mk))).get? b=s.heap.get? b:=λ b hb=>Heap.get?_update_other _ _ (Ne.symm hb);have ne:∀a o,h.get? a=some o->a≠T:=λ a o q r=>by rw[r,yD] at q;cases q
  refine hQ _ ?_ ?_ ?_ ?_
  .refine⟨I.base,λ a o q=>(other a λ r=>by rw[r,Kl] at q;cases q).trans (I.fe a o q),I.len,λ n a c h1 h2=>?_,I.nodup,I.apart⟩;exact(I.cell n a c h1 h2).mono (λ _ _ q=>q) λ o q=>(other a λ r=>Km (r▸dH h1)).trans q
  .exact⟨λ a o q=>let⟨o',q'⟩:=St.alive a o q;⟨o',(other a (ne a o q)).trans q'⟩,λ a o hx hn q=>(other a (ne a o q)).trans (St.keep a o hx hn q),λ a o hx q=>let⟨sl,q'⟩:=St.slots a o hx q;⟨sl,(other a (ne a o q)).trans q'⟩⟩
  .intro me uX;obtain⟨k,L',o,p1,p2,p3,p4,p5⟩:=SO me uX;haveI:L'≠T:=λ r=>Uo (r▸kx.mpr ⟨me,uX,p1⟩);exact⟨k,L',o,p1,(other L' this).trans p2,p3,p4,p5⟩
  .exact⟨new,fz,out,oe,vs,(other e (Ne.symm DO)).trans he,hc,hd,.some h1 DO yD Kl Km rW (Obj.data_mapFields yE _) (.inr ⟨rfl,mk,by simp[RO]⟩)⟩
theorem HR(B:agY W){Za VB:Pos}(hv:sc.isVar i id=true)(GG:R1=id)(hn:t9 agx=true)(hw:Ei sc agx (.Name id px)=false)(hg:sc.c6 Zm=true)(Zq:Zm=("ValueError" : Str))(hx:cS W n C sc x agx):sE W n C sc (.yw i x) (.Try [.Assign [.Name id px] agx ap] [.ExceptHandler (some (.Name Zm ep)) none [.Assign [.Name R1 Za] (.Constant .none ck cp) VB] hp] [] [] pos):=by
 intro A F s Φ ρ σ fr hF cx S;subst hF;subst Zq;subst GG;haveI Az:=((Sc.bj hg)).1;haveI vE:=((Sc.bj hg)).2
 (first|rw[cz,if_pos (aK S hv)]|rw[ja,if_pos (aK S hv)]|rw[fZ,if_pos (aK S hv)]|rw[kG,if_pos (aK S hv)]|rw[jc,if_pos (aK S hv)]|rw[ly,if_pos (aK S hv)]|rw[je,if_pos (aK S hv)]|rw[lz,if_pos (aK S hv)]|rw[hH,if_pos (aK S hv)]|rw[jf,if_pos (aK S hv)]|rw[jg,if_pos (aK S hv)]|rw[lA,if_pos (aK S hv)]|rw[gO,if_pos (aK S hv)]|rw[kH,if_pos (aK S hv)]|rw[jh,if_pos (aK S hv)])
 intro Q E h1 h2 h3 h4;refine wpAny_Try_except (wpAny_execs_cons (wpAny_Assign_Name (hx cx S.dy _ _ (λ q=>h1 (by rw[q])) (λ u v aM Φ' h' k e I St r=>?_) λ e aM Φ' h' k q I St T=>?_) (by rw[ua cx.cs hn,hw])))
 .refine ax (s:={ s with heap:=h',toks:=k}) cx.cs (S.step St I) hv r λ cb k' w8 K=>?_;refine wpAny_execs_nil (wpAny_execs_nil ?_);exact h2 _ _ Φ' ρ cb k' (by rw[e]) w8 ((Mv.step St).trans (.bind K))
 .refine sJ (s:={ s with heap:=h',toks:=k}) (h:=s.heap) (X:=(·∈ρ)) cx.frames cx.f0 cx.f rfl (S.step St I).se.pZ I St.kp T λ av du wW VC DP=>?_;refine ud (s:={ s with heap:=av,toks:=k}) (h:=s.heap) none VC du wW DP.weaken λ aQ cZ fM VD yF=>?_;haveI cT:=S.step ⟨St.ext,St.fresh,fM⟩ cZ;haveI VE:=yF;obtain⟨_,_,_,oe,vs,he,hc,hd,_⟩:=VE;refine wpAny_handleBy_builtin (X:="ValueError") (T:="ValueError") (b:=true) PySem.F.excRaise_ValueError.isExc Lw Lx (rX (s:={ s with heap:=aQ,toks:=k}) B cx.cs cZ Az B.jm.1 B.jm.2 vE ⟨rfl,⟨_,he,hc⟩,?_⟩);rw[if_pos rfl];refine ud (s:={ s with heap:=aQ,toks:=k}) (h:=s.heap) (L:=F.L) none VD cZ fM yF λ aO fE iC VF ql=>?_;haveI bF:=S.step ⟨St.ext,St.fresh,iC⟩ fE;refine wpAny_execs_cons (wpAny_Assign_Name (wpAny_Constant_none (ax (s:={ s with heap:=aO,toks:=k}) cx.cs bF hv (v:=.d .none) RD.none λ gz Qd lI Qe=>?_)) (by rfl));exact wpAny_execs_nil (h2 _ _ Φ' ρ gz Qd (by rw[q]) lI ((Mv.step (⟨St.ext,St.fresh,iC⟩:agA ρ (cK F.l) Φ s.heap Φ' aO)).trans (.bind Qe)))
end
section
variable {W:Wd} {F:Fx} {Φ Φ':Fz} {ρ eT:List Addr} {σ aM:ae} {fr aR:agq} {h h':Heap} {s:Shared} {A:Around} {n:Nat} {C:aG}
theorem sT(cx:Cx W n A F.e0 F.af F.L F.env F.sc){E:Value->Shared->Prop}(S:SE W F Φ ρ σ h)(T:bA Φ ρ F.L F.hs h e false)(h4:∀h',SE W F Φ ρ σ h'->bA Φ ρ F.L F.hs h' e false->E (.ref e) { s with heap:=h',toks:=k}):notedBy (model W.prog W.w) A F.env (cameBackBy (model W.prog W.w) A F.env E) (.ref e) { s with heap:=h,toks:=k}:=
 Pg (s:={ s with heap:=h,toks:=k}) (h:=F.hs) (X:=(·∈F.mY)) cx.frames cx.f0 cx.f rfl S.pZ S.inv S.st.kp T λ cb tB UP UR YL=>h4 cb ⟨tB,UR,⟨S.st.ext,S.st.fresh,UP⟩,S.pre⟩ YL.weaken
noncomputable def LK(W:Wd)(A:Around)(F:Fx)(Q:Flow->Shared->Prop)(E:Value->Shared->Prop):Result->Shared->Prop:=λ r s'=>match r with|.ok f=>Q f s' | .error e=>cameBackBy (model W.prog W.w) A F.env E e s'
inductive Zr(W:Wd)(F:Fx)(s:Shared)(Φ:Fz)(ρ:List Addr)(f:Nat->agq->ae->XR)(R:XR):Nat->Shared->Prop
 |mk {m:Nat} (Φ':Fz) (eT:List Addr) (aM:ae) (aR:agq) (h':Heap) (k:Nat) (S:SS W F Φ' eT aM aR h') (M:Mv F Φ ρ s.heap Φ' eT h') (e:f m aR aM=R):Zr W F s Φ ρ f R m { s with heap:=h',toks:=k}
inductive Zs(W:Wd)(F:Fx)(s:Shared)(Φ:Fz)(ρ:List Addr)(hb:Heap)(it:Addr)(J:List PyData->Fz->Heap->Prop)(f:List PyData->agq->ae->XR)(R:XR):Nat->Shared->Prop
 |mk (items:List PyData) (Φ':Fz) (eT:List Addr) (aM:ae) (aR:agq) (h':Heap) (k:Nat) (S:SS W F Φ' eT aM aR h') (M:Mv F Φ ρ hb Φ' eT h') (l6:Φ' it=none) (JW:it∉eT) (hJ:J items Φ' h') (e:f items aR aM=R):Zs W F s Φ ρ hb it J f R items.length { s with heap:=h',toks:=k}
inductive Zt(W:Wd)(F:Fx)(s:Shared)(Φ:Fz)(ρ:List Addr)(hb:Heap)(it a:Addr)(f:Nat->Nat->agq->ae->XR)(R:XR):Nat->Shared->Prop
 |mk {m:Nat} (i:Nat) (Φ':Fz) (eT:List Addr) (aM:ae) (aR:agq) (h':Heap) (k:Nat) (S:SS W F Φ' eT aM aR h') (M:Mv F Φ ρ hb Φ' eT h') (l6:Φ' it=none) (JW:it∉eT) (hJ:h'.IsListIter it a i) (e:f m i aR aM=R):Zt W F s Φ ρ hb it a f R m { s with heap:=h',toks:=k}
theorem HS(hc:yk W n C sc c test)(hb:ri W n C sc b body):sE W n C sc (.yv c b) (.While test body [] pos):=by
 intro A F s Φ ρ σ fr hF cx S;subst hF;rw[hH];intro Q E h1 h2 h3 h4;generalize hR:agC (λ fr σ=>evE W.G C c fr σ) (λ fr σ=>aD W.G C b fr σ) 1000 fr σ=R at h1 h2 h3 h4;refine wpAny_While (codeAny_whileLoop (Zr W F s Φ ρ (λ m=>agC (λ fr σ=>evE W.G C c fr σ) (λ fr σ=>aD W.G C b fr σ) m) R) ?_ 1000 (.mk Φ ρ σ fr s.heap s.toks S .refl hR));intro m sI I;refine Zr.casesOn I λ Φ' eT aM aR h' k S' M' hm=>?_;cases m with
 |zero=>(first|rw[Pb] at hm|rw[Pc] at hm);exact absurd hm.symm h1
 |succ m=>
  (first|rw[Pb] at hm|rw[Pc] at hm)
  have q:((evE W.G C c aR aM).then λ v σ=>(Res.of σ (aP v)).then λ b' σ=>if b'=true then(aD W.G C b aR σ).andThen (agC (λ fr σ=>evE W.G C c fr σ) (λ fr σ=>aD W.G C b fr σ) m) else .next aR σ)
    = (u6 W.G C c aR aM).then λ b' σ=>if b'=true then(aD W.G C b aR σ).andThen (agC (λ fr σ=>evE W.G C c fr σ) (λ fr σ=>aD W.G C b fr σ) m) else .next aR σ:=by
   unfold u6;cases evE W.G C c aR aM<;>rfl
  rw[q] at hm;refine hc cx S'.dy (s:={ s with heap:=h',toks:=k}) _ _ (λ z=>h1 (by simp only[←hm,z];rfl)) (λ t t' aX cJ av k₁ e I St r=>?_) λ e aX cJ av k₁ z I St T=>?_
  .cases r;rw[e] at hm;haveI aW:=S'.step St I;haveI Ly:=M'.trans (Mv.step St);cases t with
   |false=>
    dsimp only[Bool.false_eq_true,if_false] at hm ⊢;exact wpAny_execs_nil (h2 aR aX cJ eT av k₁ hm.symm aW Ly)
   |true=>
    dsimp only[if_true,Res.gW] at hm ⊢;refine hb rfl cx aW (s:={ s with heap:=av,toks:=k₁}) _ _ (λ z=>h1 (by simp only[←hm,z];rfl)) (λ HT dG ff zp CR k₂ e cT Qg=>?_) (λ u v dG ff zp CR k₂ e cT r=>?_) λ x dG ff zp CR k₂ e cT T=>?_
    .rw[e] at hm;exact⟨m,Nat.lt_succ_self m,.mk ff zp dG HT CR k₂ cT (Ly.trans Qg) hm⟩
    .rw[e] at hm;exact h3 u v dG ff zp CR k₂ hm.symm cT r
    .rw[e] at hm;exact sT cx cT T λ aO bF ql=>h4 x dG ff zp aO k₂ hm.symm bF ql
  .rw[z] at hm;exact sT cx (S'.se.step St I) (T.back S'.se.st.kp.alive) λ aO bF ql=>h4 e aX cJ eT aO k₁ hm.symm bF ql
structure Zu(W:Wd)(it:Addr)(J:List PyData->Fz->Heap->Prop):Prop where
 next:∀{A:Around} {x:PyData} {xs:List PyData} {Φ:Fz} {s:Shared},J (x::xs) Φ s.heap->Φ it=none->∀{Q:Option Value->Shared->Prop} {E:Value->Shared->Prop},(∀v h' k,RD Φ v x->J xs Φ h'->Heap.SameBut it s.heap h'->(∃o,h'.get? it=some o)->Q (some v) { s with heap:=h',toks:=k})->wpAny (model W.prog W.w) A (pyNext (.ref it)) Q E s
 stop:∀{A:Around} {Φ:Fz} {s:Shared},A.handled=none->J [] Φ s.heap->∀{Q:Option Value->Shared->Prop} {E:Value->Shared->Prop},(∀h',Heap.ExtBut it s.heap h'->Q none { s with heap:=h'})->wpAny (model W.prog W.w) A (pyNext (.ref it)) Q E s
 go:∀{A:Around} {xs:List PyData} {Φ:Fz} {s:Shared},J xs Φ s.heap->∀{e:Expr} {v:Value} {Q:Unit->Shared->Prop} {E:Value->Shared->Prop},Q () s->wpAny (model W.prog W.w) A (letOwnedTupleGo e (.ref it) v) Q E s
 keep:∀{xs:List PyData} {Φ Φ':Fz} {h h':Heap},J xs Φ h->(∀a o,Φ a=some o->Φ' a=some o)->(∀a o,Φ' a=some o->h'.get? a=some o)->(∀o,h.get? it=some o->h'.get? it=some o)->J xs Φ' h'
 alive:∀{xs:List PyData} {Φ:Fz} {h:Heap},J xs Φ h->∃o,h.get? it=some o
theorem ue(S:SS W F Φ ρ σ fr h)(hn:h.get? it=none):(it≠F.env.locals/\(∀x,F.env.cells.lookup x≠some it))/\it∉ρ/\it∉cK F.l:=by
 haveI a:=((Dy.alive (sc:=F.sc) S.dy hn)).1;haveI b:=(((Dy.alive (sc:=F.sc) S.dy hn)).2).1;haveI c:=((((Dy.alive (sc:=F.sc) S.dy hn)).2).2).1;haveI d:=((((Dy.alive (sc:=F.sc) S.dy hn)).2).2).2;exact⟨⟨a,b⟩,c,d⟩
theorem zq{J:List PyData->Fz->Heap->Prop}(T:Zu W it J)(ht:mz sc t te=true)(hb:ri W n C sc b body)(hF:F.sc=sc)(cx:Cx W n A F.e0 F.af F.L F.env F.sc)(hit:hb₀.get? it=none)(sF:(it≠F.env.locals/\(∀x,F.env.cells.lookup x≠some it))/\it∉ρ/\it∉cK F.l)(zr:F.hs.get? it=none)(S:SS W F Φ ρ σ fr h)(M:Mv F Φ ρ hb₀ Φ ρ h)(l6:Φ it=none)(hJ:J items Φ h){Q:Flow->Shared->Prop}{E:Value->Shared->Prop}(hR:bl (λ fr σ=>aD W.G C b fr σ) t items fr σ=R)(h1:R≠.stuck)(h2:∀aR aM Φ' eT h' k,R=.next aR aM->SS W F Φ' eT aM aR h'->Mv F Φ ρ hb₀ Φ' eT h'->Q .next { s with heap:=h',toks:=k})(h3:∀u v aM Φ' eT h' k,R=.ret v aM->SE W F Φ' eT aM h'->VR Φ' eT u v->Q (.ret u) { s with heap:=h',toks:=k})(h4:∀e aM Φ' eT h' k,R=.err aM->SE W F Φ' eT aM h'->bA Φ' eT F.L F.hs h' e false->E (.ref e) { s with heap:=h',toks:=k}):codeAny (model W.prog W.w) A (.forLoop te (.ref it) body [] F.env) (LK W A F Q E) { s with heap:=h,toks:=k}:=by
 subst hF;refine codeAny_forLoop_any (Zs W F s Φ ρ hb₀ it J (λ items=>bl (λ fr σ=>aD W.G C b fr σ) t items) R) ?_ items.length (.mk items Φ ρ σ fr h k S M l6 sF.2.1 hJ hR);intro mI sI I;refine Zs.casesOn I λ items Φ' eT aM aR h' k S' M' zt vm VG hm=>?_;have HU:¬own F.env it:=λ q=>by rcases q with q|⟨y,q⟩;exact sF.1.1 q;exact sF.1.2 y q
 cases items with
 |nil=>
  (first|rw[Uh] at hm|rw[Ui] at hm)
  refine T.stop (s:={ s with heap:=h',toks:=k}) cx.handled VG λ av hx=>?_;exact wpAny_execs_nil (h2 aR aM Φ' eT av k hm.symm (S'.other ⟨sF.1.1,sF.1.2,vm,sF.2.2⟩ zt zr λ a o eZ q=>hx a o eZ q) (M'.other hit λ a o eZ q=>hx a o eZ q))
 |cons x xs=>
  (first|rw[Uh] at hm|rw[Ui] at hm)
  refine T.next (s:={ s with heap:=h',toks:=k}) VG zt λ v av k₁ rv qi dh NO=>?_
  have aW:=S'.other ⟨sF.1.1,sF.1.2,vm,sF.2.2⟩ zt zr λ a o eZ q=>(dh.2 a eZ).trans q;refine T.go (s:={ s with heap:=av,toks:=k₁}) qi ?_;refine cq (asg aM t (.d x) aR) (λ ha=>?_) (λ HT ha=>?_)
  .rw[ha] at hm;exact absurd hm.symm h1
  ·
   rw[ha] at hm;dsimp only at hm;refine oV t te ht (s:={ s with heap:=av,toks:=k₁}) (λ _=>true) cx aW.dy (rj _) (λ i _=>qe i) (v:=.d x) rv ha λ aQ k₂ jF fM=>?_;have cT:=aW.store jF fM;have zu:J xs Φ' aQ:=T.keep qi (λ _ _ q=>q) cT.se.inv.fe λ o q=>fM.keep _ _ HU sF.2.2 q;refine bK (T.alive zu) λ oi KY=>?_;refine hb rfl cx cT (s:={ s with heap:=aQ,toks:=k₂}) _ _ (λ z=>h1 (by simp only[←hm,z];rfl)) (λ HV gc d6 kP aO cM e bF vn=>?_) (λ u w gc d6 kP aO cM e bF r=>?_) λ y gc d6 kP aO cM e bF ql=>?_
   .rw[e] at hm;have Bl:it∉kP:=λ q=>by
     refine aI vn.pre λ r hr hf=>?_;rw[hr] at q;rcases bX.mp q with q|q
     .exact vm q
     .rw[hf it q] at KY;cases KY
    haveI hk:∀o,aQ.get? it=some o->aO.get? it=some o:=λ o q=>vn.kp.keep it o (λ z=>by rcases z with z|z;exact HU z;exact vm z) sF.2.2 q;exact⟨xs.length,Nat.lt_succ_self _,.mk xs d6 kP gc HV aO cM bF (((M'.other hit λ a o eZ q=>(dh.2 a eZ).trans q).trans (Mv.bind fM)).trans vn) ((vn.fresh it oi KY).trans zt) Bl (T.keep zu vn.ext bF.se.inv.fe hk) hm⟩
   .rw[e] at hm;exact h3 u w gc d6 kP aO cM hm.symm bF r
   .rw[e] at hm;exact sT cx bF ql λ gz lI Qh=>h4 y gc d6 kP gz cM hm.symm lI Qh
def JAt(it:Addr)(xs:List PyData)(Φ:Fz)(h:Heap):Prop:=∃vs,kL Φ h it vs/\dF Φ vs xs
theorem Qj(it:Addr):Zu W it (JAt it) where
 next:=by
  rintro A x xs Φ s ⟨vs,hi,r⟩ l6 Q E hQ;obtain⟨_,_,rfl,r1,r2⟩:=r.i;exact xd hi l6 λ h' qT hs hl=>hQ _ h' s.toks r1 ⟨_,qT,r2⟩ hs hl
 stop:=by
  rintro A Φ s hh ⟨vs,hi,r⟩ Q E hQ;obtain rfl:=r.ni;exact AU hh hi hQ
 go:=by
  rintro A xs Φ s ⟨vs,hi,r⟩ e v Q E hQ;exact GO hi hQ
 keep:=by
  rintro xs Φ Φ' h h' ⟨vs,hi,r⟩ oQ hf hk;exact⟨vs,hi.keep oQ hf hk,r.mono oQ⟩
 alive:=by
  rintro xs Φ h ⟨vs,hi,r⟩;cases hi with
  |list _ _ h3=>obtain⟨o,e,_⟩:=h3;exact⟨o,e⟩
  |tuple _ _ h3=>obtain⟨o,e,_⟩:=h3;exact⟨o,e⟩
def JRg(step:Int)(it:Addr)(xs:List PyData)(Φ:Fz)(h:Heap):Prop:=∃x:Int,IsRangeIter h it x xs.length step/\xs=(List.range xs.length).map λ(i:Nat)=>.int (x+step * i)
theorem Qk(step:Int)(it:Addr):Zu W it (JRg step it) where
 next:=by
  rintro A x xs Φ s ⟨a,hi,r⟩ l6 Q E hQ;refine wpAny_pyNext_range_item hi (by simp) λ h' qT hs=>?_;rw[List.length_cons,List.range_succ_eq_map,List.map_cons] at r;injection r with r1 r2
  subst r1;refine hQ _ h' _ (by simpa using RD.int a s.toks) ⟨a+step,?_,?_⟩ hs ⟨_,qT⟩
  .haveI:(((PyData.int (a+step * ((0:Nat):Int))::xs).length:Nat):Int) - 1=xs.length:=by simp
   rw[this] at qT;exact qT
  .conv=>lhs;rw[r2]
   simp only[List.map_map];refine List.map_congr_left λ i _=>?_;simp only[Function.comp];congr 1
   push_cast
   rw[Int.mul_add];lia
 stop:=by
  rintro A Φ s hh ⟨a,hi,r⟩ Q E hQ;exact wpAny_pyNext_range_end hh hi (by simp) hQ
 go:=by
  rintro A xs Φ s ⟨a,hi,r⟩ e v Q E hQ;exact mS hi rfl (by decide) hQ
 keep:=by
  rintro xs Φ Φ' h h' ⟨a,hi,r⟩ oQ hf hk;exact⟨a,hk _ hi,r⟩
 alive:=by
  rintro xs Φ h ⟨a,hi,r⟩;exact⟨_,hi⟩
end
section
variable {Φ:Fz}{ρ:List Addr}{n:Nat}{C:aG}{args:List E}
theorem HW{W:Wd}{F:Fx}{h:Heap}{s:Shared}{A:Around}(ht:mz sc t te=true)(hb:ri W n C sc b body)(hF:F.sc=sc)(cx:Cx W n A F.e0 F.af F.L F.env F.sc)(hit:hb₀.get? it=none)(sF:(it≠F.env.locals/\(∀x,F.env.cells.lookup x≠some it))/\it∉ρ/\it∉cK F.l)(zr:F.hs.get? it=none)(ha:ρ[m₀]?=some a)(S:SS W F Φ ρ σ fr h)(M:Mv F Φ ρ hb₀ Φ ρ h)(l6:Φ it=none)(hJ:h.IsListIter it a 0){Q:Flow->Shared->Prop}{E:Value->Shared->Prop}(hR:fR (λ fr σ=>aD W.G C b fr σ) t m₀ fuel 0 fr σ=R)(h1:R≠.stuck)(h2:∀aR aM Φ' eT h' k,R=.next aR aM->SS W F Φ' eT aM aR h'->Mv F Φ ρ hb₀ Φ' eT h'->Q .next { s with heap:=h',toks:=k})(h3:∀u v aM Φ' eT h' k,R=.ret v aM->SE W F Φ' eT aM h'->VR Φ' eT u v->Q (.ret u) { s with heap:=h',toks:=k})(h4:∀e aM Φ' eT h' k,R=.err aM->SE W F Φ' eT aM h'->bA Φ' eT F.L F.hs h' e false->E (.ref e) { s with heap:=h',toks:=k}):codeAny (model W.prog W.w) A (.forLoop te (.ref it) body [] F.env) (LK W A F Q E) { s with heap:=h,toks:=k}:=by
 subst hF;refine codeAny_forLoop_any (Zt W F s Φ ρ hb₀ it a (λ m i=>fR (λ fr σ=>aD W.G C b fr σ) t m₀ m i) R) ?_ fuel (.mk 0 Φ ρ σ fr h k S M l6 sF.2.1 hJ hR);intro m sI I;refine Zt.casesOn I λ i Φ' eT aM aR h' k S' M' zt vm VG hm=>?_;have HU:¬own F.env it:=λ q=>by rcases q with q|⟨y,q⟩;exact sF.1.1 q;exact sF.1.2 y q
 haveI tD:eT[m₀]?=some a:=by
  refine aI M'.pre λ r hr _=>?_;rw[hr,i0 (gi.mp ha).1];exact ha
 cases m with
 |zero=>(first|rw[yy] at hm|rw[yz] at hm);exact absurd hm.symm h1
 |succ m=>
 (first|rw[yy] at hm|rw[yz] at hm)
 split at hm
 .rename_i xs eP;obtain⟨vs,mm,hg,rs⟩:=S'.se.inv.cell m₀ a _ tD eP;haveI hai:a≠it:=λ q=>vm (q▸dH tD);split at hm
  .rename_i hx;have agw:vs.length<=i:=by have:=rs.length;have:=List.getElem?_eq_none_iff.mp hx;with_reducible exact FK ‹_› this
   refine wpAny_pyNext_list_end (s:={ s with heap:=h',toks:=k}) cx.handled VG ⟨_,hg,rfl,mm,rfl⟩ (by simp[agw]) λ av Og=>?_;haveI aW:=S'.other ⟨sF.1.1,sF.1.2,vm,sF.2.2⟩ zt zr λ a o eZ q=>Og a o eZ q;exact wpAny_execs_nil (h2 aR aM Φ' eT av k hm.symm aW (M'.other hit λ a o eZ q=>Og a o eZ q))
  .rename_i x hx;letI v:=((rs.get hx)).choose;haveI hv:=(((rs.get hx)).choose_spec).1;haveI rv:=(((rs.get hx)).choose_spec).2;refine wpAny_pyNext_list_item (s:={ s with heap:=h',toks:=k}) (x:=v) VG ⟨_,hg,rfl,mm,rfl⟩ (by simpa using hv) λ av qi dh=>?_;have aW:=S'.other ⟨sF.1.1,sF.1.2,vm,sF.2.2⟩ zt zr λ a o eZ q=>(dh.2 a eZ).trans q;have Ly:=M'.other hit λ a o eZ q=>(dh.2 a eZ).trans q;haveI Ql:=qi;obtain⟨abZ,VH,VI,_⟩:=Ql;refine mS (s:={ s with heap:=av,toks:=k}) VH VI (by decide) ?_;refine cq (asg aM t (.d x) aR) (λ Lz=>?_) (λ HT Lz=>?_)
   .rw[Lz] at hm;exact absurd hm.symm h1
   ·
    rw[Lz] at hm;dsimp only at hm;refine oV t te ht (s:={ s with heap:=av,toks:=k}) (λ _=>true) cx aW.dy (rj _) (λ i _=>qe i) (v:=.d x) rv Lz λ aQ k₂ jF fM=>?_;haveI cT:=aW.store jF fM;haveI Qg:=Ly.trans (Mv.bind fM);have zu:aQ.IsListIter it a (i+1):=qi.at λ o q=>fM.keep _ _ HU sF.2.2 q;haveI Qm:=zu;obtain⟨oi,KY,_⟩:=Qm;refine hb rfl cx cT (s:={ s with heap:=aQ,toks:=k₂}) _ _ (λ z=>h1 (by simp only[←hm,z];rfl)) (λ HV gc d6 kP aO cM e bF vn=>?_) (λ u w gc d6 kP aO cM e bF r=>?_) λ y gc d6 kP aO cM e bF ql=>?_
    .rw[e] at hm;have Bl:it∉kP:=λ q=>by
      refine aI vn.pre λ r hr hf=>?_;rw[hr] at q;rcases bX.mp q with q|q
      .exact vm q
      .rw[hf it q] at KY;cases KY
     haveI hk:∀o,aQ.get? it=some o->aO.get? it=some o:=λ o q=>vn.kp.keep it o (λ z=>by rcases z with z|z;exact HU z;exact vm z) sF.2.2 q;exact⟨m,Nat.lt_succ_self m,.mk (i+1) d6 kP gc HV aO cM bF (Qg.trans vn) ((vn.fresh it oi KY).trans zt) Bl (zu.at hk) hm⟩
    .rw[e] at hm;exact h3 u w gc d6 kP aO cM hm.symm bF r
    .rw[e] at hm;exact sT cx bF ql λ gz lI Qh=>h4 y gc d6 kP gz cM hm.symm lI Qh
 .exact absurd hm.symm h1
theorem HX{W:Wd}(lL:ef ie=true)(ht:mz sc t te=true)(he:cS W n C sc e ie)(hb:ri W n C sc b body):sE W n C sc (.i7 t e b) (.For te ie body [] pos):=by
 intro A F s Φ ρ σ fr hF cx S;rw[jf];subst hF;refine bg.of (λ Q E h=>wpAny_For h (λ x=>dT lL x)) (bg.val (P2:=λ x Q E aL=>wpAny (model W.prog W.w) A (pyIter x) (λ it bB=>codeAny (model W.prog W.w) A (.forLoop te it body [] F.env) (LK W A F Q E) bB) E aL) S (he cx S.dy) λ u v aM Φ' h' k e' S' r=>?_);cases v with
 |d x=>
  refine bg.opt λ items hx=>?_;intro Q E h1 h2 h3 h4;refine qg (s:={ s with heap:=h',toks:=k}) S'.se.inv r hx λ o vs rs nG hit=>?_;haveI hn:h'.get? h'.objs.size=none:=Heap.br h';haveI kk:=bY h' o;exact zq (Qj _) ht hb rfl cx (hb₀:=h') hn (ue S' hn) (S'.se.gone hn) (S'.step (agA.bo kk) (S'.se.inv.ext kk)) (Mv.step (agA.bo kk)) (S'.se.inv.bp hn) ⟨vs,hit,rs⟩ rfl h1 h2 h3 h4
 |loc m=>
  obtain⟨a,ha,rfl⟩:=r;refine bg.opt λ fuel hx=>?_;intro Q E h1 h2 h3 h4;split at hx
  .rename_i xs eP;obtain⟨vs,mm,hg,rs⟩:=S'.se.inv.cell m a _ ha eP;refine wpAny_pyIter_list (s:={ s with heap:=h',toks:=k}) ⟨_,hg,rfl,mm,rfl⟩ ?_;haveI hn:h'.get? h'.objs.size=none:=Heap.br h';haveI kk:=bY h' { cls:=.type "list_iterator",data:=.fields #[.ref a,rawInt 0]};refine HW (a:=a) (m₀:=m) ht hb rfl cx (hb₀:=h') hn (ue S' hn) (S'.se.gone hn) ha (S'.step (agA.bo kk) (S'.se.inv.ext kk)) (Mv.step (agA.bo kk)) (S'.se.inv.bp hn) ?_ rfl h1 h2 h3 h4;exact⟨_,d5 _ rfl,rfl,rfl⟩
  .cases hx
theorem En(x:Int):Builtin.Range.rangeSize 0 x 1=(x.toNat:Int):=by rw[rangeSize_one];split<;>(first|exact(Int.sub_zero x).trans (Int.toNat_of_nonneg (Int.le_of_lt ‹_›)).symm|exact congrArg Int.ofNat (Int.toNat_of_nonpos (Int.not_lt.mp ‹_›)).symm)
theorem v9{lo:Int}(h : -1<=lo):Builtin.Range.rangeSize lo (-1) (-1)=((lo+1).toNat:Int):=by
 unfold Builtin.Range.rangeSize;rw[if_neg (by decide)];split
 .haveI:(-(-1):Int)=1:=by decide
  rw[this,Int.ediv_one];exact(Int.sub_add_cancel ..).trans ((Int.sub_neg ..).trans (Int.toNat_of_nonneg (Int.add_le_add_right h 1)).symm)
 .lia
theorem uf{W:Wd}:∀{xs:List E} {es:List Expr},kb W.GN W.FN sc xs es=true->(backTo pos (starEach es env)).any (·.1)=false
 |[],[],_=>rfl
 |[],_::_,h=>by simp[GB] at h
 |x::xs,[],h=>by simp[vH] at h
 |x::xs,e::es,h=>by
  simp only[vH,dN] at h;rw[gY h.1.1];haveI:=uf (pos:=pos) (env:=env) h.2;simpa[backTo] using this
theorem Zv(r:dF Φ vs [.int a]):∃t,vs=[.int a t]:=by
 obtain⟨v,ws,rfl,r1,r⟩:=r.inv;refine bO r.ni ?_;obtain⟨t,rfl⟩:=r1.ii;exact⟨t,rfl⟩
theorem Zx(r:dF Φ vs [.int a,.int b,.int c]):∃t u v,vs=[.int a t,.int b u,.int c v]:=by
 obtain⟨_,_,_,rfl,r1,r2,r3⟩:=r.three;obtain⟨t,rfl⟩:=r1.ii;obtain⟨u,rfl⟩:=r2.ii;obtain⟨v,rfl⟩:=r3.ii;exact⟨t,u,v,rfl⟩
def RgA(ds items:List PyData):Prop:=∃lo:Int,ds=[.int lo]/\-1000<=lo/\lo<=1000/\items=(List.range lo.toNat).map λ(i:Nat)=>.int (0+1 * i)
def RgB(ds items:List PyData):Prop:=∃lo:Int,ds=[.int lo,.int (-1),.int (-1)]/\-1<=lo/\lo<=1000/\items=(List.range (lo+1).toNat).map λ(i:Nat)=>.int (lo+-1 * i)
theorem Eo(hx:iO ds=some items):RgA ds items\/RgB ds items:=by
 cases ds with
 |nil=>cases hx
 |cons x ds=>
  refine aI (dR (show(mJ x).bind _=_ from hx)) λ lo hn hx=>?_;obtain rfl:=ec hn;cases ds with
  |nil=>obtain⟨⟨Ep,LA⟩,e⟩:=dr hx;exact .inl ⟨lo,rfl,Ep,LA,e.symm⟩
  |cons y ds=>
   refine aI (dR (show(mJ y).bind _=_ from hx)) λ hi hn hx=>?_;obtain rfl:=ec hn;cases ds with
   |nil=>cases hx
   |cons z ds=>
    refine aI (dR (show(mJ z).bind _=_ from hx)) λ st hn hx=>?_;obtain rfl:=ec hn;cases ds with
    |cons=>cases hx
    |nil=>obtain⟨⟨rfl,rfl,Ep,LA⟩,e⟩:=dr hx;exact .inr ⟨lo,rfl,Ep,LA,e.symm⟩
theorem Es{lo:Int}(Ep : -1<=lo)(LA:lo<=1000):Builtin.Range.small lo (-1) (-1)=true:=by
 unfold Builtin.Range.small;rw[v9 Ep];simp only[Builtin.Range.rangeFitsLong,dN,Bool.or_eq_true,decide_eq_true_eq,beq_iff_eq,show¬((-1:Int) > 0) by decide,if_false]
 (apply And.intro<;>(first|(with_reducible apply And.intro<;>(apply And.intro<;>(first|(with_reducible apply And.intro<;>(first|(with_reducible apply And.intro<;>(first|exact FV LA rfl|exact Na Ep rfl|lia))|lia))|lia)))|lia))
theorem HY{W:Wd}(B:agY W){sc:Sc}{i:Nat}{b:List S}(hg:sc.c6 fn=true)(Vx:fn=("range" : Str))(ht:mz sc (.var i) te=true)(pK:kb W.GN W.FN sc args es=true)(hes:Lk W n C sc args es)(hb:ri W n C sc b body):sE W n C sc (.tq i args b) (.For te (.Call (.Name fn fp) es [] cp) body [] pos):=by
 intro A F s Φ ρ σ fr hF cx S;subst hF;subst Vx;haveI hv:=((Sc.bj hg)).1;haveI hd:=((Sc.bj hg)).2;rw[jg];refine bg.of (P':=λ Q E s=>wpAny (model W.prog W.w) A (spliced (backTo cp (starEach es F.env))) (λ vs aL=>wpAny (model W.prog W.w) A (call (.type "range") vs) (λ x aL=>wpAny (model W.prog W.w) A (pyIter x) (λ it bB=>codeAny (model W.prog W.w) A (.forLoop te it body [] F.env) (LK W A F Q E) bB) E aL) E aL) E s)
  (λ Q E h=>wpAny_For (cX (eJ B cx S.dy.inv hv B.range.1 B.range.2 hd (PyProof.Rows.callWith_type (uf pK) (lE (qa pK) h)))) λ x=>dT rfl x) ?_
 refine bg.val (P2:=λ vs Q E aL=>wpAny (model W.prog W.w) A (call (.type "range") vs) (λ x aL=>wpAny (model W.prog W.w) A (pyIter x) (λ it bB=>codeAny (model W.prog W.w) A (.forLoop te it body [] F.env) (LK W A F Q E) bB) E aL) E aL) S (hes cp cx S.dy) λ vs ys aM Φ' h' k e' S' r=>?_;refine bg.opt λ items hx=>?_;intro Q E h1 h2 h3 h4;refine cq (fQ ys) (λ w9=>?_) (λ ds w9=>?_)
 .rw[w9] at hx;cases hx
 ·
  rw[w9] at hx;have rs:=r.fQ w9
  -- the loop,once the range Gv
  have fin:∀(a b c:Int) (t u v:Tok) (k':Nat),Builtin.Range.small a b c=true->Builtin.Range.rangeSize a b c=(items.length:Int)->items=((List.range items.length).map λ(i:Nat)=>PyData.int (a+c * i)) ->
    wpAny (model W.prog W.w) A (pyIter (.ref h'.objs.size)) (λ it bB=>codeAny (model W.prog W.w) A (.forLoop te it body [] F.env) (LK W A F Q E) bB) E { s with heap:=h'.push { cls:=.type "range",data:=.fields #[.int a t,.int b u,.int c v]},toks:=k'}:=by
   intro a b' c t u v k' UO qS hit;refine wpAny_pyIter_range (IsRange.new ..) UO ?_;rw[qS];haveI k1:=bY h' { cls:=.type "range",data:=.fields #[.int a t,.int b' u,.int c v]};generalize h'.push { cls:=.type "range",data:=.fields #[.int a t,.int b' u,.int c v]}=av at k1 ⊢;haveI aW:=S'.step (agA.bo k1) (S'.se.inv.ext k1);haveI hn:av.get? av.objs.size=none:=Heap.br av;haveI Po:h'.get? av.objs.size=none:=by
    refine cq (h'.get? av.objs.size) (λ q=>?_) (λ o q=>?_)
    .rfl
    .rw[k1 _ o q] at hn;cases hn
   haveI k2:=bY av { cls:=.type "range_iterator",data:=.fields #[rawInt a,rawInt (items.length:Int),rawInt c]};refine zq (Qk c _) ht hb rfl cx (hb₀:=h') Po (ue aW hn) (aW.se.gone hn) (aW.step (agA.bo k2) (aW.se.inv.ext k2)) ((Mv.step (agA.bo k1)).trans (Mv.step (agA.bo k2))) (aW.se.inv.bp hn) ⟨a,d5 _ rfl,hit⟩ rfl h1 h2 h3 h4
  rcases Eo (show iO ds=some items from hx) with⟨lo,rfl,Ep,LA,hi⟩|⟨lo,rfl,Ep,LA,hi⟩
  .refine bK (Zv rs) λ t z2=>?_;obtain rfl:=z2;have hl:items.length=lo.toNat:=by simp only[hi,bR,List.length_range]
   refine call_range_1 (s:={ s with heap:=h',toks:=k}) (fin 0 lo 1 _ _ _ _ (small_one (by decide) (by decide) (by exact Na Ep rfl) (by exact FV LA rfl)) ?_ ?_)
   .simp only[En,hl]
   .rw[hl];exact hi
  .refine O5 (Zx rs) λ t u v z4=>?_;obtain rfl:=z4;have hl:items.length=(lo+1).toNat:=by simp only[hi,bR,List.length_range]
   refine call_range_3 (s:={ s with heap:=h',toks:=k}) (by decide) (fin lo (-1) (-1) _ _ _ _ (Es Ep LA) ?_ ?_) (Or.inl (PyProof.noPylong_small (by decide)))
   .simp only[v9 Ep,hl]
   .rw[hl];exact hi
end
section
variable {W:Wd} {F:Fx} {Φ Φ':Fz} {ρ eT:List Addr} {σ aM:ae} {fr aR:agq} {h h':Heap} {s:Shared} {A:Around} {n:Nat} {C:aG}
def Qn(W:Wd)(n:Nat)(C:aG)(sc:Sc)(x:S)(Fy Bm:Stmt):Prop:=
 ∀{A:Around} {F:Fx} {s:Shared} {Φ:Fz} {ρ:List Addr} {σ:ae} {fr:agq},F.sc=sc->Cx W n A F.e0 F.af F.L F.env F.sc->SS W F Φ ρ σ fr s.heap ->
  bg W F (λ Q E s=>wpAny (model W.prog W.w) A (exec Fy F.env) (λ f aL=>f=.next/\wpAny (model W.prog W.w) A (exec Bm F.env) Q E aL) E s) Φ ρ s (exS W.G C x fr σ)
set_option backward.match.sparseCases true in
theorem Et(h:Qn W n C sc x Fy Bm)(hr:ri W n C sc xs zk):ri W n C sc (x::xs) (Fy::Bm::zk):=by
 intro A F s Φ ρ σ fr hF cx S
 (first|rw[Pd]|rw[Pe])
 intro Q E h1 h2 h3 h4;refine wpAny_execs_cons (cj (h hF cx S (λ f s'=>match f with|.next=>wpAny (model W.prog W.w) A (execs zk F.env) Q E s'|f=>Q f s') E (λ q=>h1 (by rw[q];rfl)) (λ aR aM Φ' eT h' k e S' M=>?_) (λ u v aM Φ' eT h' k e S' r=>?_) λ e aM Φ' eT h' k q S' T=>?_) (λ f s' hq=>?_) λ _ _ q=>q)
 .rw[e] at h1 h2 h3 h4;exact hr hF cx S' Q E h1 (λ aR dS cW iD cb fS e w8 M'=>h2 aR dS cW iD cb fS e w8 (M.trans M')) (λ u v dS cW iD cb fS e=>h3 u v dS cW iD cb fS e) λ x dS cW iD cb fS e=>h4 x dS cW iD cb fS e
 .exact h3 u v aM Φ' eT h' k (by rw[e];rfl) S' r
 .exact h4 e aM Φ' eT h' k (by rw[q];rfl) S' T
 .obtain⟨rfl,hq⟩:=hq;exact wpAny_execs_cons hq
theorem Bn(hp:∀a,a∈ρ->a∈F.mY\/F.hs.get? a=none)(hg:∀a,h₀.get? a=none->F.hs.get? a=none):oY W ρ σ (cK F.l) (λ a=>h₀.get? a=none) (λ Φ h=>agA F.mY (cK F.l) F.Φs F.hs Φ h/\Mv F Φ₀ ρ h₀ Φ ρ h):=by
 rintro Φ Φ' h h' ⟨S,M⟩ ext fresh k I;have n0:∀a o,F.hs.get? a=some o->¬h₀.get? a=none:=λ a o e q=>by rw[hg a q] at e;cases e
 have n1:∀a o,F.hs.get? a=some o->a∉F.mY->¬(h₀.get? a=none\/a∈ρ):=λ a o e q z=>z.elim (n0 a o e) λ r=>(hp a r).elim q λ z=>by rw[z] at e;cases e
 have n2:∀a o,h₀.get? a=some o->a∉ρ->¬(h₀.get? a=none\/a∈ρ):=λ a o e q z=>z.elim (λ z=>by rw[z] at e;cases e) q;haveI al:∀a o,h.get? a=some o->¬h₀.get? a=none->∃o',h'.get? a=some o':=λ a o e q=>by
  by_cases z:a∈ρ
  .exact I.live z
  .letI sl:=((k.slots a o (λ y=>y.elim q z) e)).choose;haveI e':=((k.slots a o (λ y=>y.elim q z) e)).choose_spec;exact⟨_,e'⟩
 refine⟨⟨λ a o e=>ext a o (S.ext a o e),λ a o e=>?_,⟨λ a o e=>?_,λ a o h1 h2 e=>k.keep a o (n1 a o e h1) h2 (S.kp.keep a o h1 h2 e),λ a o h1 e=>?_⟩⟩,⟨λ a o e=>ext a o (M.ext a o e),λ a o e=>?_,⟨λ a o e=>?_,λ a o h1 h2 e=>k.keep a o (n2 a o e λ q=>h1 (.inr q)) h2 (M.kp.keep a o h1 h2 e),λ a o h1 e=>?_⟩,M.pre⟩⟩
 .refine bK (S.kp.alive a o e) λ o' e'=>?_;exact(fresh a o' e').trans (S.fresh a o e)
 .refine bK (S.kp.alive a o e) λ o' e'=>?_;exact al a o' e' (n0 a o e)
 .refine bK (S.kp.slots a o h1 e) λ sl e'=>?_;refine bK (k.slots a _ (n1 a o e h1) e') λ NG oP=>?_;exact⟨NG,oP⟩
 .refine bK (M.kp.alive a o e) λ o' e'=>?_;exact(fresh a o' e').trans (M.fresh a o e)
 .refine bK (M.kp.alive a o e) λ o' e'=>?_;exact al a o' e' (by rw[e];intro q;cases q)
 .refine bK (M.kp.slots a o h1 e) λ sl e'=>?_;refine bK (k.slots a _ (n2 a o e λ q=>h1 (.inr q)) e') λ NG oP=>?_;exact⟨NG,oP⟩
theorem Eu(h:three ds=some (a,b,c)):ds=[.list a,.list b,.list c]:=by
 cases ds with
 |nil=>cases h
 |cons x r=>
  refine aI (dR h) λ a' h1 h=>?_;obtain rfl:=mK h1;cases r with
  |nil=>cases h
  |cons y r=>
   refine aI (dR h) λ b' h2 h=>?_;obtain rfl:=mK h2;cases r with
   |nil=>cases h
   |cons z r=>
    refine aI (dR h) λ c' h3 h=>?_;obtain rfl:=mK h3;induction r with
    |nil=>cases h;rfl
    |cons=>cases h
theorem zv:∀a b c:List PyData,(pT a b c).length<=a.length
 |[],_,_=>cy _
 |x::a,y::b,z::c=>cv (zv a b c)
 |x::a,[],c=>dJ _
 |x::a,y::b,[]=>dJ _
theorem xu(r:RD Φ v (.list xs)):∃a vs m,v=.ref a/\Φ a=some (dE vs m)/\dF Φ vs xs:=r.i
theorem Inv.CS(I:Inv W Φ ρ σ h)(hT:h.get? T=some o)(l6:Φ T=none)(JW:T∉ρ):Inv W (Φ.add T o) ρ σ h/\∀b o',Φ b=some o'->(Φ.add T o) b=some o':=by
 have ext:∀b o',Φ b=some o'->(Φ.add T o) b=some o':=λ b o' e=>by
  haveI:b≠T:=neN e l6;simp[Fz.add,this,e]
 refine⟨⟨λ b o' e=>ext b o' (I.base b o' e),λ b o' e=>?_,I.len,λ i b c h1 h2=>(I.cell i b c h1 h2).mono ext (λ o q=>q),I.nodup,λ b hb=>?_⟩,ext⟩
 .by_cases q:b=T
  .subst q;simp[Fz.add] at e;subst e;exact hT
  .simp[Fz.add,q] at e;exact I.fe b o' e
 .haveI:b≠T:=by rintro rfl;exact JW hb
  simp[Fz.add,this,I.apart b hb]
theorem SS.freeze(S:SS W F Φ ρ σ fr h)(hT:h.get? T=some o)(l6:Φ T=none)(ap:agQ F.env ρ (cK F.l) T)(hs:F.hs.get? T=none):SS W F (Φ.add T o) ρ σ fr h:=by
 refine dd (S.se.inv.CS hT l6 ap.2.2.1) λ I ext=>?_;have ne:∀a,a≠T->(Φ.add T o) a=Φ a:=λ a q=>by simp[Fz.add,q]
 refine⟨⟨I,λ env he=>?_,⟨λ a o e=>ext a o (S.se.st.ext a o e),λ a o e=>?_,S.se.st.kp⟩,S.se.pre⟩,⟨S.eC.ns,?_,S.eC.yI,λ x c hc=>?_,S.eC.inj,λ i x hx=>?_,S.eC.nodup,S.eC.len⟩,S.own⟩
 .obtain⟨hk,L,o,h1,h2,h3,h4,h5⟩:=S.se.pZ env he;refine⟨hk,L,o,h1,h2,h3,?_,h5⟩;rw[ne L (by rintro rfl;exact ap.2.2.2 (kx.mpr ⟨env,he,h1⟩))];exact h4
 .rw[ne a (neN e hs)];exact S.se.st.fresh a o e
 .rw[ne _ (Ne.symm ap.1)];exact S.eC.JQ
 .haveI a1:=((S.eC.cell x c hc)).1;haveI a2:=(((S.eC.cell x c hc)).2).1;haveI a3:=((((S.eC.cell x c hc)).2).2).1;haveI a4:=((((S.eC.cell x c hc)).2).2).2;refine⟨a1,?_,a3,a4⟩;rw[ne c (by rintro rfl;exact ap.2.1 x hc)];exact a2
 .refine aI (S.eC.val i x hx) λ ov a1 a2=>?_;exact⟨ov,a1,λ v q=>let⟨u,e,r⟩:=a2 v q;⟨u,e,r.mono ext⟩⟩
theorem Mv.freeze(M:Mv F Φ ρ h Φ' eT h')(hT:h.get? T=none)(l6:Φ' T=none):Mv F Φ ρ h (Φ'.add T o) eT h':=
 ⟨λ a o' e=>by
  have e:=M.ext a o' e;haveI:a≠T:=neN e l6;simp[Fz.add,this,e],λ a o' e=>by
  haveI:a≠T:=neN e hT;simp[Fz.add,this,M.fresh a o' e],M.kp,M.pre⟩
theorem HZ(B:agY W)(hw:sc.isVar iw Ew=true)(R7:sc.isVar ip LB=true)(hg:sc.c6 fn=true)(Vx:fn=("zip" : Str))(VJ:kb W.GN W.FN sc xs es=true)(AS:Lk W n C sc xs es)(hsw:Ei sc (.ListComp ee [⟨.Tuple LC tk tp,.Name Ew pn,[],0⟩] aa lp) (.Name LB pp)=true)(hm:m=aa.names.length)(pK:fh sc aa=true)(he:cS W n C (aq sc aa) elt ee)(ht:mz (aq sc aa) t (.Tuple LC tk tp)=true)(tH:c7 (bk (aq sc aa)) t=true):Qn W n C sc (.tr iw ip m xs elt t) (.Assign [.Name Ew pw] (.Call (.Name fn fp) es [] cp) p1) (.Assign [.Name LB pp] (.ListComp ee [⟨.Tuple LC tk tp,.Name Ew pn,[],0⟩] aa lp) p2):=by
 intro A F s Φ ρ σ fr hF cx S;subst hF;subst hm;subst Vx;have iJ:=hY pK;haveI hv:=((Sc.bj hg)).1;haveI hd:=((Sc.bj hg)).2;refine gp (js (env:=F.env) (kN cx S.dy iJ)) λ cl qk oX vf=>?_;haveI hwx:=((Sc.dz hw)).1;haveI Zy:=((Sc.dz hw)).2;rw[jh];refine bg.of (P':=λ Q E s=>wpAny (model W.prog W.w) A (spliced (backTo cp (starEach es F.env))) (λ vs aL=>wpAny (model W.prog W.w) A (call (.type "zip") vs) (λ v bB=>wpAny (model W.prog W.w) A (storeName F.env Ew v) (λ _ dj=>wpAny (model W.prog W.w) A (exec (.Assign [.Name LB pp] (.ListComp ee [⟨.Tuple LC tk tp,.Name Ew pn,[],0⟩] aa lp) p2) F.env) Q E dj) E bB) E aL) E s)
  (λ Q E h=>wpAny_Assign_Name (cj (cX (eJ B cx S.dy.inv hv B.zip.1 B.zip.2 hd (PyProof.Rows.callWith_type (uf VJ) (lE (qa VJ) h)))) (λ v bB q=>cj q (λ _ dj r=>⟨rfl,r⟩) λ _ _ r=>r) λ _ _ r=>r)) ?_
 refine bg.val (P2:=λ vs Q E aL=>wpAny (model W.prog W.w) A (call (.type "zip") vs) (λ v bB=>wpAny (model W.prog W.w) A (storeName F.env Ew v) (λ _ dj=>wpAny (model W.prog W.w) A (exec (.Assign [.Name LB pp] (.ListComp ee [⟨.Tuple LC tk tp,.Name Ew pn,[],0⟩] aa lp) p2) F.env) Q E dj) E bB) E aL) S (AS cp cx S.dy) λ vs ys aX cJ av k₁ oU aW dY=>?_;refine bg.opt λ qR Zz=>?_;obtain⟨a,b,c⟩:=qR;by_cases hc:(agF elt=true/\iw<fr.length/\ip<fr.length)/\a.length=b.length/\a.length=c.length/\a.length<=1000;case neg=>rw[if_neg hc];exact .stuck
 rw[if_pos hc];haveI z1:=(hc).1;haveI q1:=((hc).2).1;haveI q2:=(((hc).2).2).1;haveI q3:=(((hc).2).2).2;obtain⟨hp,hiw,hip⟩:=z1;intro Q E cG h2 h3 h4;refine aI (dR Zz) λ ds w9 Qo=>?_;obtain rfl:=Eu Qo;have rs:=dY.fQ w9;obtain⟨_,_,_,rfl,ra,rb,rc⟩:=rs.three;refine bw (xu ra) λ l1 v1 m1 z4 f1 s1=>?_;obtain rfl:=z4;refine bw (xu rb) λ l2 v2 m2 z4 f2 s2=>?_;obtain rfl:=z4;refine bw (xu rc) λ l3 v3 m3 z4 f3 s3=>?_;obtain rfl:=z4;have du:=aW.se.inv;haveI H1:=du.fe _ _ f1;haveI H2:=du.fe _ _ f2;haveI H3:=du.fe _ _ f3;refine Ef (s:={ s with heap:=av,toks:=k₁}) ⟨_,H1,rfl,m1,rfl⟩ ⟨_,H2,rfl,m2,rfl⟩ ⟨_,H3,rfl,m3,rfl⟩ λ aQ HG i1 i2 i3 kk=>?_;haveI cT:=aW.step (agA.bo kk) (du.ext kk);have ap:∀a,av.get? a=none->agQ F.env ρ (cK F.l) a:=λ a q=>Dy.alive (sc:=F.sc) aW.dy q;haveI gP:∀j:Nat,av.get? (av.objs.size+j)=none:=λ j=>bQ (cU _ _);have sS:∀a,av.get? a=none->¬own F.env a:=λ a q z=>by rcases z with z|⟨y,z⟩;exact(ap a q).1 z;exact(ap a q).2.1 y z
 haveI Oh:=qe (sc:=F.sc) (env:=F.env) iw Ew hwx;refine vD (s:={ s with heap:=aQ,toks:=k₁}) (o:=none) cx.cs cT.dy hwx (λ v e=>nomatch e) Oh.1 Oh.2 λ aO cM ZA iC VK=>?_;haveI bF:SS W F cJ ρ aX (fr.set iw none) aO:=cT.store ZA iC;have wa:∀(j:Nat) o,aQ.get? (av.objs.size+j)=some o->aO.get? (av.objs.size+j)=some o:=λ j o e=>iC.keep _ o (sS _ (gP j)) (ap _ (gP j)).2.2.2 e;have H0:Z3 aO av.objs.size .none:=⟨wa 5 _ HG.z,wa 3 _ HG.ti,let⟨a,b,c,e⟩:=HG.to;⟨a,b,c,wa 4 _ e⟩⟩;rw[exec_Assign_Name_used _ _ _ _ (by rw[ua cx.cs rfl,hsw])];refine ak (gH (ak ?_));show wpAny _ A (do let _ ←comprehension (.ListComp ee [⟨.Tuple LC tk tp,.Name Ew pn,[],0⟩] aa lp) aa F.env _ (newList []) false (eval (.Name Ew pn) F.env) (some (assign (.Name LB pp) F.env))) _ _ _;refine ak (cj (wpAny_comprehension_free (s:={ s with heap:=aO,toks:=cM}) (use:=some (assign (.Name LB pp) F.env)) (Q:=λ _ s'=>Q .next s') rfl (λ x=>dT rfl x) qk iJ.kind (λ x hx hl=>dv iJ.nodup (by rw[←hl];exact hx)) ?_)
   (λ _ s' hq=>aF (aF hq)) λ _ _ e=>e)
 refine wpAny_Name ?_ Zy;have fin:wpAny (model W.prog W.w) A (pyIter (.ref (av.objs.size+5))) (λ it bB=>wpAny (model W.prog W.w) A (newList []) (λ acc dj=>
   wpAny (model W.prog W.w) A (newFunctionEnv aa F.env.globals cl [] F.env.qual none .none (some F.env)) (λ aZ gy=>
    codeAny (model W.prog W.w) A (.compStart (.ListComp ee [⟨.Tuple LC tk tp,.Name Ew pn,[],0⟩] aa lp) 0 it acc { aZ with scope:=relabel aa F.env}) (compPost (model W.prog W.w) A E (some (assign (.Name LB pp) F.env)) (λ _ s'=>Q .next s') acc aZ.locals) gy) E dj) E bB) E { s with heap:=aO,toks:=cM}:=by
  refine v7 (s:={ s with heap:=aO,toks:=cM}) H0 ?_;refine wpAny_newObj_type (wpAny_newFunctionEnv iJ.xf (by intro y hy;simp at hy) (λ iQ H4 H5=>?_) iJ.kind);generalize ZC:aO.push { cls:=.type "list",dict:=none,data:=.seq ([]:List Value).toArray}=Hc at H4 H5 ⊢;have e7:av.objs.size+5<aO.objs.size:=eE H0.z;have q8:Hc.objs.size=aO.objs.size+1:=by rw[←ZC,Heap.size_push]
  have k2:∀a o,aO.get? a=some o->Hc.get? a=some o:=λ a o e=>ZC▸dA _ e;have k3:∀a o,Hc.get? a=some o->iQ.get? a=some o:=λ a o e=>H5.extBut a o (dI (eE e)) (dA _ e);have k5:∀a o,aO.get? a=some o->iQ.get? a=some o:=λ a o e=>k3 a o (k2 a o e);have GU:iQ.get? aO.objs.size=some (dE [] 0):=k3 _ _ (by rw[←ZC];exact d5 _ rfl);have nD:av.get? aO.objs.size=none:=bQ (Nat.le_of_lt (eQ (cU _ 5) e7));have nC:av.get? Hc.objs.size=none:=bQ (by rw[q8];exact eR (Nat.le_of_lt (MU e7)));haveI nD3:aO.get? aO.objs.size=none:=Heap.br _;haveI nC3:aO.get? Hc.objs.size=none:=bQ (by rw[q8];exact kF);haveI xg:=bF.step (agA.bo k5) (bF.se.inv.ext k5);have NT:∀a,av.get? a=none->a≠Hc.objs.size->agQ (compEnvC aa cl Hc.objs.size F.env) ρ (cK F.l) a:=λ a q ne=>⟨ne,λ x hx=>(ap a q).2.1 x (oX x a hx),(ap a q).2.2⟩;haveI Dc:Dy W cJ ρ aX F.l (compEnvC aa cl Hc.objs.size F.env) (aq F.sc aa).vars (fr.set iw none++List.replicate aa.names.length none) iQ:=
   ⟨xg.se.inv,xg.se.pZ,lH cx xg.dy iJ oX vf H4 (bF.se.inv.bp nC3) (ap _ nC).2.2.1 (ap _ nC).2.1⟩
  haveI VL:PS W ρ aX F.l F.env F.sc.vars (fr.set iw none) (compEnvC aa cl Hc.objs.size F.env) (aq F.sc aa).vars (fr.set iw none++List.replicate aa.names.length none) aO.objs.size (λ Φ h=>agA F.mY (cK F.l) F.Φs F.hs Φ h/\Mv F cJ ρ av Φ ρ h) cJ iQ []:=
   ⟨xg.dy,Dc,⟨xg.se.st,((Mv.step (agA.bo kk)).trans (Mv.bind iC)).trans (Mv.step (agA.bo k5))⟩,bF.se.inv.bp nD3,⟨[],0,GU,.nil⟩⟩
  have hJ:JZ av.objs.size l1 l2 l3 (pT a b c) cJ iQ:=⟨λ x q=>du.bp (bQ q.1),⟨k5 _ _ H0.z,k5 _ _ H0.ti,let⟨a,b,c,e⟩:=H0.to;⟨a,b,c,k5 _ _ e⟩⟩,0,v1,m1,v2,m2,v3,m3,a,b,c,(i1.at λ o e=>wa 0 o e).at λ o e=>k5 _ o e,(i2.at λ o e=>wa 1 o e).at λ o e=>k5 _ o e,(i3.at λ o e=>wa 2 o e).at λ o e=>k5 _ o e,f1,f2,f3,s1,s2,s3,q1,q2,rfl⟩;haveI VM:(pT a b c).length<=lim:=by
   haveI:=zv a b c;haveI hl:lim=1048576:=rfl;exact rQ this q3 rfl
  haveI loop:∀vd:Shared,vd={ s with heap:=iQ,toks:=cM+([]:List (Str×Value)).length} ->
    codeAny (model W.prog W.w) A (.compLoop (.ListComp ee [⟨.Tuple LC tk tp,.Name Ew pn,[],0⟩] aa lp) 0 (.ref (av.objs.size+5)) (.ref aO.objs.size) (compEnvC aa cl Hc.objs.size F.env)) (compPost (model W.prog W.w) A E (some (assign (.Name LB pp) F.env)) (λ _ s'=>Q .next s') (.ref aO.objs.size) Hc.objs.size) vd:=by
   rintro vd rfl;refine oZ (sc:=F.sc) (fr:=fr.set iw none) (env:=F.env) (e0:=F.e0) (af:=F.af) (Li (eE H1) (eE H2) (eE H3) λ x q=>(ap _ (bQ q.1)).2.2.1) (yU ee (.Tuple LC tk tp) (.Name Ew pn) aa lp _ _) (λ h=>codeAny_of_tree h) (sN cx iJ cl Hc.objs.size) he ht tH (λ i hi=>qh cx i hi) hp (λ y cQ h=>tK (by rw[List.length_set];exact S.eC.len) tH _ y cQ h)
    (Bn (Φ₀:=cJ) (h₀:=av) (λ x q=>aW.se.mem q) (λ x q=>aW.se.gone q)) (λ x q=>bQ q.1) nD nC ap (λ x q=>NT x (bQ q.1) ?_) ?_ (NT _ nD ?_)
    (pT a b c) hJ VL (by simpa using VM) ?_ λ ys Φ' h' k e' S'=>?_
   .intro r;haveI q:av.objs.size<=Hc.objs.size/\Hc.objs.size<=av.objs.size+5:=r▸q;exact Nat.not_le_of_lt (Nat.lt_of_lt_of_eq (Nat.lt_succ_of_lt e7) q8.symm) q.2
   .intro r;haveI r:av.objs.size<=aO.objs.size/\aO.objs.size<=av.objs.size+5:=r;exact Nat.not_le_of_lt e7 r.2
   .exact dI (by rw[q8];exact mF)
   .intro q;refine cG ?_;show(aA (pF W.G C t elt (fr.set iw none++List.replicate aa.names.length none)) (pT a b c) aX).then _=_;rw[q];rfl
   .refine gq S'.acc λ ds md GR rd=>?_;rw[List.nil_append] at rd;letI mc:=(S'.dc.eC.ns).choose;haveI UQ:=(S'.dc.eC.ns).choose_spec;haveI c1:Φ' Hc.objs.size=none:=S'.dc.eC.JQ;haveI SS':SS W F Φ' ρ aX (fr.set iw none) h':=⟨⟨S'.dy.inv,S'.dy.pZ,S'.bs.1,aW.se.pre⟩,S'.dy.eC,S.own⟩;haveI yW:=SS'.freeze GR S'.sO (ap _ nD) (aW.se.gone nD);haveI ext:=(S'.dy.inv.CS GR S'.sO (ap _ nD).2.2.1).2;haveI eZ:aO.objs.size≠Hc.objs.size:=dI (by rw[q8];exact mF);refine wpAny_assign_Name (ax (s:={ s with heap:=h',toks:=k}) cx.cs yW R7 (v:=.d (.list ys)) (RD.list (Fz.hU ..) (rd.mono ext)) λ q9 PT PU VN=>?_);refine⟨mc,jk UQ λ o q=>VN.slots _ _ (sS _ nC) q,λ Qa mA=>?_⟩;haveI ZD:=PU.other (ap _ nC) (by simp[Fz.add,Ne.symm eZ,c1]) (aW.se.gone nC) λ a o Bk q=>(mA.2 a Bk).trans q;refine h2 _ aX _ ρ Qa PT ?_ ZD (((S'.bs.2.freeze nD S'.sO).trans (Mv.bind VN)).other nC λ a o Bk q=>(mA.2 a Bk).trans q);show(aA (pF W.G C t elt (fr.set iw none++List.replicate aa.names.length none)) (pT a b c) aX).then _=_;rw[e'];rfl
  exact codeAny_compStart_list (loop _ rfl) (v7 (s:={ s with heap:=iQ,toks:=cM+([]:List (Str×Value)).length}) hJ.z (loop _ rfl))
 rcases VK with⟨hk,m,hm,e⟩|⟨hk,c,hc,q⟩
 .exact wpAny_loadName_local cx.kind hk hm e fin
 .exact wpAny_loadName_cell cx.kind hk hc q fin
end
noncomputable def ZE(e:Stmt):Option {x:Expr×Expr // ∃p,e=.Assign [x.1] x.2 p}:=iP e (λ y1 b p=>(sM y1 (λ a=>some ⟨(a,b),p,rfl⟩) none)) none
noncomputable def VO(e:Stmt):Option {x:Str×List Expr // ∃q r p,e=.Assign [.Name x.1 q] (.List x.2 r) p}:=iP e (λ y1 y2 p=>(sM y1 (λ y3=>(fH y3 (λ a q=>(NI y2 (λ b r=>some ⟨(a,b),q,r,p,rfl⟩) none)) none)) none)) none
noncomputable def VP(e:Stmt):Option {x:Str×Str×Expr // ∃q r t p,e=.Assign [.Name x.1 q] (.Call (.Name x.2.1 r) [x.2.2] [] t) p}:=iP e (λ y1 y2 p=>(sM y1 (λ y3=>(fH y3 (λ a q=>(p9 y2 (λ y4 y5 y6 t=>(fH y4 (λ b r=>(sM y5 (λ c=>(AA y6 (some ⟨(a,b,c),q,r,t,p,rfl⟩) none)) none)) none)) none)) none)) none)) none
noncomputable def VQ(e:Stmt):Option {x:Str // ∃q r p,e=.Assign [.Name x q] (.Dict [] [] r) p}:=iP e (λ y1 y2 p=>(sM y1 (λ y3=>(fH y3 (λ a q=>(NJ y2 (λ y4 y5 r=>(AA y4 ((AA y5 (some ⟨a,q,r,p,rfl⟩) none)) none)) none)) none)) none)) none
noncomputable def VS(e:Stmt):Option {x:Str×Expr×Expr // ∃q r p,e=.Assign [.Subscript (.Name x.1 q) x.2.1 r] x.2.2 p}:=iP e (λ y1 c p=>(sM y1 (λ y2=>(jo y2 (λ y3 b r=>(fH y3 (λ a q=>some ⟨(a,b,c),q,r,p,rfl⟩) none)) none)) none)) none
noncomputable def ZF(e:Stmt):Option {x:(Str×Str×Expr)×(Pos×Pos) // ∃q p,e=.Expr (.Call (.Attribute (.Name x.1.1 q) x.1.2.1 x.2.1) [x.1.2.2] [] x.2.2) p}:=NK e (λ y1 p=>(p9 y1 (λ y2 y3 y4 t=>(AK y2 (λ y5 b r=>(fH y5 (λ a q=>(sM y3 (λ c=>(AA y4 (some ⟨((a,b,c),(r,t)),q,p,rfl⟩) none)) none)) none)) none)) none)) none
noncomputable def ZG(e:Stmt):Option {x:Expr // ∃p,e=.Expr x p}:=NK e (λ a p=>some ⟨a,p,rfl⟩) none
noncomputable def vIf(e:Stmt):Option {x:Expr×List Stmt×List Stmt // ∃p,e=.If x.1 x.2.1 x.2.2 p}:=sIf e (λ a b c p=>some ⟨(a,b,c),p,rfl⟩) none
noncomputable def Qp(e:Stmt):Option {x:Expr×List Stmt // ∃p,e=.While x.1 x.2 [] p}:=Pw e (λ a b y1 p=>(AA y1 (some ⟨(a,b),p,rfl⟩) none)) none
noncomputable def ZH(e:Stmt):Option {x:Expr×Expr×List Stmt // ∃p,e=.For x.1 x.2.1 x.2.2 [] p}:=Ux e (λ a b c y1 p=>(AA y1 (some ⟨(a,b,c),p,rfl⟩) none)) none
noncomputable def VT(e:Stmt):Option {x:Expr×Str×List Expr×List Stmt // ∃q r p,e=.For x.1 (.Call (.Name x.2.1 q) x.2.2.1 [] r) x.2.2.2 [] p}:=Ux e (λ a y1 d y2 p=>(p9 y1 (λ y3 c y4 r=>(fH y3 (λ b q=>(AA y4 ((AA y2 (some ⟨(a,b,c,d),q,r,p,rfl⟩) none)) none)) none)) none)) none
noncomputable def ZI(e:Stmt):Option {x:Expr // ∃p,e=.Return (some x) p}:=Kr e (λ y1 p=>(Uz y1 (λ a=>some ⟨a,p,rfl⟩) none)) none
noncomputable def Qq(e:Stmt):Option {x:Str // ∃m k q r t p,e=.Raise (some (.Call (.Name x q) [.Constant (.str m) k r] [] t)) none p}:=Px e (λ y1 y2 p=>(Uz y1 (λ y3=>(p9 y3 (λ y4 y5 y6 t=>(fH y4 (λ a q=>(sM y5 (λ y7=>(qZ y7 (λ y8 k r=>(cStr y8 (λ m=>(AA y6 ((Yr y2 (some ⟨a,m,k,q,r,t,p,rfl⟩) none)) none)) none)) none)) none)) none)) none)) none)) none
noncomputable def ZJ(e:Stmt):Option {x:(Str×Pos×Expr)×(Str×Str) // ∃ap ep k cp px VB hp p,e=.Try [.Assign [.Name x.1.1 x.1.2.1] x.1.2.2 ap] [.ExceptHandler (some (.Name x.2.1 ep)) none [.Assign [.Name x.2.2 px] (.Constant .none k cp) VB] hp] [] [] p}:=Ym e (λ y1 y2 y3 y4 p=>(sM y1 (λ y5=>(iP y5 (λ y6 b ap=>(sM y6 (λ y7=>(fH y7 (λ a q=>(sM y2 (λ y8=>(cEH y8 (λ y9 y10 y11 hp=>(Uz y9 (λ y12=>(fH y12 (λ c ep=>(Yr y10 ((sM y11 (λ y13=>(iP y13 (λ y14 y15 VB=>(sM y14 (λ y16=>(fH y16 (λ d px=>(qZ y15 (λ y17 k cp=>(cCn y17 ((AA y3 ((AA y4 (some ⟨((a,q,b),(c,d)),ap,ep,k,cp,px,VB,hp,p,rfl⟩) none)) none)) none)) none)) none)) none)) none)) none)) none)) none)) none)))) none)) none)) none)) none)) none)) none
noncomputable def vCp(x:E):Option {q:(Nat×E×Tg)×(E×List E) // x=.comp q.1.1 q.1.2.1 q.1.2.2 q.2.1 q.2.2}:=match x with
 |.comp m a b c d=>some ⟨((m,a,b),(c,d)),rfl⟩
 |_=>none
def Qr(x:E):Bool:=(vCp x).isSome
theorem H6(h:Qr x=true):∃m elt t it ifs,x=.comp m elt t it ifs:=let⟨q,_⟩:=Option.isSome_iff_exists.mp h;⟨_,_,_,_,_,q.2⟩
noncomputable def ZK(x:E):Option {q:(Nat×E×Tg)×(E×Tg×E) // x=.fY q.1.1 q.1.2.1 q.1.2.2 q.2.1 q.2.2.1 q.2.2.2}:=match x with
 |.fY m a b c d e=>some ⟨((m,a,b),(c,d,e)),rfl⟩
 |_=>none
def H7(x:E):Bool:=(ZK x).isSome
theorem Ex(h:H7 x=true):∃m elt t1 qQ t2 it2,x=.fY m elt t1 qQ t2 it2:=let⟨q,_⟩:=Option.isSome_iff_exists.mp h;⟨_,_,_,_,_,_,q.2⟩
structure Zp where
 iw:Nat
 ip:Nat
 m:Nat
 xs:List E
 elt:E
 t:Tg
noncomputable def vZp(x:S):Option {z:Zp // x=.tr z.iw z.ip z.m z.xs z.elt z.t}:=match x with
 |.tr a b c d e f=>some ⟨⟨a,b,c,d,e,f⟩,rfl⟩
 |_=>none
noncomputable def vZ1(e:Stmt):Option {x:Str×Str×List Expr // ∃q r t p,e=.Assign [.Name x.1 q] (.Call (.Name x.2.1 r) x.2.2 [] t) p}:=iP e (λ y1 y2 p=>(sM y1 (λ y3=>(fH y3 (λ a q=>(p9 y2 (λ y4 c y5 t=>(fH y4 (λ b r=>(AA y5 (some ⟨(a,b,c),q,r,t,p,rfl⟩) none)) none)) none)) none)) none)) none
noncomputable def vZ2(e:Stmt):Option {x:(Str×Pos)×(Expr×Comprehension×Scope×Pos) // ∃p,e=.Assign [.Name x.1.1 x.1.2] (.ListComp x.2.1 [x.2.2.1] x.2.2.2.1 x.2.2.2.2) p}:=iP e (λ y1 y2 p=>(sM y1 (λ y3=>(fH y3 (λ a q=>(nH y2 (λ b y4 d r=>(sM y4 (λ c=>some ⟨((a,q),(b,c,d,r)),p,rfl⟩) none)) none)) none)) none)) none
def ZL(GN FN:List Str)(sc:Sc)(z:Zp)(a:Str×Str×List Expr)(b:(Str×Pos)×(Expr×Comprehension×Scope×Pos))(w:Str):Bool:=
  sc.isVar z.iw a.1&&(sc.isVar z.ip b.1.1&&((w==a.1)&&(sc.c6 a.2.1&&((a.2.1==("zip" : Str))&&(kb GN FN sc z.xs a.2.2&&(Ei sc (.ListComp b.2.1 [b.2.2.1] b.2.2.2.1 b.2.2.2.2) (.Name b.1.1 b.1.2)&&(((b.2.2.1.is_async==0)&&b.2.2.1.ifs.isEmpty) &&
   ((z.m==b.2.2.2.1.names.length)&&(fh sc b.2.2.2.1&&(lr GN FN (aq sc b.2.2.2.1) z.elt b.2.1&&(mz (aq sc b.2.2.2.1) z.t b.2.2.1.target&&c7 (bk (aq sc b.2.2.2.1)) z.t)))))))))))
def ckZ(GN FN:List Str)(sc:Sc)(z:Zp)(Fy Bm:Stmt):Bool:=
 anyS (vZ1 Fy) λ a=>anyS (vZ2 Bm) λ b=>anyS (Ks b.2.2.1.target) λ _=>anyS (yK b.2.2.1.iter) λ w=>ZL GN FN sc z a b w
noncomputable def vL2(l:List Str):Option {x:Str×Str // l=[x.1,x.2]}:=match l with
 |[a,b]=>some ⟨(a,b),rfl⟩
 |_=>none
noncomputable def vL3(l:List Str):Option {x:Str×Str×Str // l=[x.1,x.2.1,x.2.2]}:=match l with
 |[a,b,c]=>some ⟨(a,b,c),rfl⟩
 |_=>none
noncomputable def vT2(l:List Tg):Option {x:Nat×Nat // l=[.var x.1,.var x.2]}:=match l with
 |[.var a,.var b]=>some ⟨(a,b),rfl⟩
 |_=>none
noncomputable def vT3(l:List Tg):Option {x:Nat×Nat×Nat // l=[.var x.1,.var x.2.1,.var x.2.2]}:=match l with
 |[.var a,.var b,.var c]=>some ⟨(a,b,c),rfl⟩
 |_=>none
def VU(sc:Sc)(l:List Str)(ts:List Tg):Bool:=
 (anyS (vL2 l) λ a=>anyS (vT2 ts) λ i=>sc.isVar i.1 a.1&&(sc.isVar i.2 a.2&&!(i.1==i.2))) ||
 (anyS (vL3 l) λ a=>anyS (vT3 ts) λ i=>sc.isVar i.1 a.1&&(sc.isVar i.2.1 a.2.1&&(sc.isVar i.2.2 a.2.2&&(!(i.1==i.2.1)&&(!(i.1==i.2.2)&&!(i.2.1==i.2.2))))))
theorem nJ{i j:Nat}(h:(!(i==j))=true):i≠j:=λ q=>by subst q;rw[beq_self_eq_true] at h;cases h
def ckA(GN FN:List Str)(sc:Sc)(t:Tg)(x:E)(te agx:Expr):Bool:=match t with
 |.var i=>anyS (yK te) λ id=>sc.isVar i id&&(t9 agx&&((!(Ei sc agx te) || (Qr x || H7 x))&&lr GN FN sc x agx))
 |.tup ts=>anyS (Ks te) λ es=>lr GN FN sc x agx&&(match J5 sc es agx with
   |none=>false
   |some o=>match o with
    |none=>mz sc (.tup ts) te
    |some l=>VU sc l ts)
mutual
def ckS(GN FN:List Str)(sc:Sc):S->Stmt->Bool
 |.assign t x,st=>anyS (ZE st) λ q=>ckA GN FN sc t x q.1 q.2
 |.oN i xs,st=>anyS (VO st) λ q=>sc.isVar i q.1&&(decide (xs.length<=1000)&&kb GN FN sc xs q.2)
 |.newOf i a,st=>anyS (VP st) λ q=>sc.isVar i q.1&&(sc.c6 q.2.1&&((q.2.1==("list" : Str))&&(agB q.2.2&&lr GN FN sc a q.2.2)))
 |.wO i,st=>anyS (VQ st) λ q=>sc.isVar i q
 |.u4 i k v,st=>anyS (VS st) λ q=>sc.isVar i q.1&&(lr GN FN sc k q.2.1&&lr GN FN sc v q.2.2)
 |.app i x,st=>anyS (ZF st) λ q=>sc.isVar i q.1.1&&((q.1.2.1==("append" : Str))&&(agB q.1.2.2&&((q.2.1.endLine==q.2.2.line)&&lr GN FN sc x q.1.2.2)))
 |.expr x,st=>anyS (ZG st) λ e=>CQ e&&lr GN FN sc x e
 |.ite c a b,st=>anyS (vIf st) λ q=>lr GN FN sc c q.1&&(vo GN FN sc a q.2.1&&vo GN FN sc b q.2.2)
 |.yv c b,st=>anyS (Qp st) λ q=>lr GN FN sc c q.1&&vo GN FN sc b q.2
 |.i7 t e b,st=>anyS (ZH st) λ q=>ef q.2.1&&(mz sc t q.1&&(lr GN FN sc e q.2.1&&vo GN FN sc b q.2.2))
 |.tq i args b,st=>anyS (VT st) λ q=>sc.c6 q.2.1&&((q.2.1==("range" : Str))&&(mz sc (.var i) q.1&&(kb GN FN sc args q.2.2.1&&vo GN FN sc b q.2.2.2)))
 |.ret x,st=>anyS (ZI st) λ e=>lr GN FN sc x e
 |.raise,st=>anyS (Qq st) λ id=>sc.c6 id&&(id==("ValueError" : Str))
 |.yw i x,st=>anyS (ZJ st) λ q=>sc.isVar i q.1.1&&((q.2.2==q.1.1)&&(t9 q.1.2.2&&(!(Ei sc q.1.2.2 (.Name q.1.1 q.1.2.1))&&(sc.c6 q.2.1&&((q.2.1==("ValueError" : Str))&&lr GN FN sc x q.1.2.2)))))
 |.tr _ _ _ _ _ _,_=>false
def vo(GN FN:List Str)(sc:Sc):List S->List Stmt->Bool
 |[],zk=>zk.isEmpty
 |x::xs,zk=>match zk with
  |st::r=>(ckS GN FN sc x st&&vo GN FN sc xs r) || (anyS (vZp x) λ z=>match r with
   |Bm::r2=>ckZ GN FN sc z st Bm&&vo GN FN sc xs r2
   |[]=>false)
  |[]=>false
end
theorem zx{W:Wd}{n:Nat}{C:aG}{sc:Sc}{aa:Scope}{ifs:List E}{elt it:E}{t:Tg}{m:Nat}{ee:Expr}{g:Comprehension}{cp pos px:Pos}{i:Nat}{id:Str}(hz:g.is_async=0)(hm:m=aa.names.length)(hv:sc.isVar i id=true)(hw:Ei sc (.ListComp ee [g] aa cp) (.Name id px)=true)(pK:fh sc aa=true)(lL:ef g.iter=true)(hit:cS W n C sc it g.iter)(hi:mU W n C (aq sc aa) ifs g.ifs)(he:cS W n C (aq sc aa) elt ee)(ht:mz (aq sc aa) t g.target=true)(tH:c7 (bk (aq sc aa)) t=true)(AX:ifs=[]->g.ifs=[]):sE W n C sc (.assign (.var i) (.comp m elt t it ifs)) (.Assign [.Name id px] (.ListComp ee [g] aa cp) pos):=by
 subst hm;obtain⟨t',PQ,Qc,z⟩:=g;subst hz;exact @zo _ _ _ _ _ _ _ _ _ _ _ _ _ _ pos _ _ _ hv hw pK lL hit hi he ht tH AX
theorem xv{W:Wd}{n:Nat}{C:aG}{sc:Sc}{aa:Scope}{elt qQ it2:E}{t1 t2:Tg}{m:Nat}{ee:Expr}{g g':Comprehension}{cp pos px:Pos}{i:Nat}{id:Str}(hz:((g.is_async==0)&&((g'.is_async==0)&&(g.ifs.isEmpty&&g'.ifs.isEmpty)))=true)(hm:m=aa.names.length)(hv:sc.isVar i id=true)(hw:Ei sc (.ListComp ee [g,g'] aa cp) (.Name id px)=true)(pK:fh sc aa=true)(lL:(ef g.iter&&ef g'.iter)=true)(hit:cS W n C sc qQ g.iter)(xi:cS W n C (aq sc aa) it2 g'.iter)(he:cS W n C (aq sc aa) elt ee)(A0:(mz (aq sc aa) t1 g.target&&c7 (bk (aq sc aa)) t1)=true)(D0:(mz (aq sc aa) t2 g'.target&&c7 (bk (aq sc aa)) t2)=true)(hd:lD t1 t2=true):sE W n C sc (.assign (.var i) (.fY m elt t1 qQ t2 it2)) (.Assign [.Name id px] (.ListComp ee [g,g'] aa cp) pos):=by
 subst hm;obtain⟨t',PQ,Qc,z⟩:=g;obtain⟨t'',Zj,Vv,z'⟩:=g';haveI h1:=(cf hz).1;haveI h:=(cf hz).2;haveI h2:=(cf h).1;haveI h:=(cf h).2;haveI h3:=(cf h).1;haveI h4:=(cf h).2;obtain rfl:=bE h1;obtain rfl:=bE h2;obtain rfl:=agX h3;obtain rfl:=agX h4;exact @xq _ _ _ _ _ _ _ _ _ _ _ _ _ _ _ _ pos _ _ _ hv hw pK (cf lL).1 (cf lL).2 hit xi he (cf A0).1 (cf A0).2 (cf D0).1 (cf D0).2 hd
section
variable {W:Wd} {n:Nat} {C:aG} (B:agY W) (FO:w6 W) (hC:w5 W n C)
include B FO hC
theorem ZN{sc:Sc}{x:E}{l:List Str}{ts:List Tg}{es:List Expr}{k:Nat}{px pos:Pos}{agx:Expr}(h:VU sc l ts=true)(hw:J5 sc es agx=some (some l))(hx:cS W n C sc x agx):sE W n C sc (.assign (.tup ts) x) (.Assign [.Tuple es k px] agx pos):=by
 haveI g0:=Bool.or_eq_true_iff.mp h;clear h;rcases g0 with g|g
 .replace g:=aw g;obtain⟨a,rfl,g⟩:=g;replace g:=aw g;obtain⟨i,rfl,g⟩:=g;exact @Ej _ _ _ _ _ _ _ _ _ _ _ _ _ _ (ll g) (pJ g) (nJ (Ct g)) hw hx
 .replace g:=aw g;obtain⟨a,rfl,g⟩:=g;replace g:=aw g;obtain⟨i,rfl,g⟩:=g;exact @Ek _ _ _ _ _ _ _ _ _ _ _ _ _ _ _ _ (ll g) (pJ g) (yj g) (nJ (Cu g)) (nJ (JT g)) (nJ (YA g)) hw hx
theorem ZO{sc:Sc}{t:Tg}{x:E}{te agx:Expr}{pos:Pos}(h:ckA W.GN W.FN sc t x te agx=true):sE W n C sc (.assign t x) (.Assign [te] agx pos):=by
 cases t with
 |var i=>
  replace h:=aw h;obtain⟨id,⟨px,rfl⟩,h⟩:=h;obtain⟨h1,h⟩:=cf h;obtain⟨h2,h⟩:=cf h;obtain⟨h4,h3⟩:=cf h;refine mH (Ei sc agx (.Name id px)) (λ hw=>?_) (λ hw=>?_)
  ·
   rw[hw] at h4;clear h;rcases Bool.or_eq_true_iff.mp (show(Qr x || H7 x)=true from h4) with h4|h4
   case inr=>
    obtain⟨m,elt,t1,qQ,t2,it2,rfl⟩:=Ex h4;haveI h3:=aw h3;obtain⟨q,⟨p,rfl⟩,g⟩:=h3;exact @xv W n C sc _ elt qQ it2 t1 t2 m _ _ _ p pos px i id (ll g) (bE (pJ g)) h1 hw (yj g) (Cu g) (sim B FO hC qQ sc _ (JT g)).1 (sim B FO hC it2 _ _ (Ku g)).1 (sim B FO hC elt _ _ (YC g)).1 (PB g) (Kv g) (Xo g)
   obtain⟨m,elt,t,it,ifs,rfl⟩:=H6 h4;haveI h3:=aw h3;obtain⟨q,⟨p,rfl⟩,g⟩:=h3;exact @zx W n C sc _ ifs elt it t m _ _ p pos px i id (bE (ll g)) (bE (pJ g)) h1 hw (yj g) (Cu g) (sim B FO hC it sc _ (JT g)).1 (sD B FO hC ifs _ _ (Kv g)).ifs (sim B FO hC elt _ _ (YB g)).1 (Ku g) (PB g) (t6 (Kv g)).mp
  .exact @zl _ _ _ _ _ _ _ _ _ _ h1 h2 hw (sim B FO hC x sc agx h3).1
 |tup ts=>
  replace h:=aw h;obtain⟨es,⟨k,px,rfl⟩,h⟩:=h;obtain⟨h1,h2⟩:=cf h;refine cq (J5 sc es agx) (λ hw=>?_) (λ o hw=>?_)
  .rw[hw] at h2;cases h2
  ·
   rw[hw] at h2;induction o with
   |none=>exact @zm _ _ _ _ _ _ _ _ _ _ _ h2 hw (sim B FO hC x sc agx h1).1
   |some l=>exact @ZN W n C B FO hC sc x l ts es k px pos agx h2 hw (sim B FO hC x sc agx h1).1
theorem ZP(h:ckZ W.GN W.FN sc z Fy Bm=true):Qn W n C sc (.tr z.iw z.ip z.m z.xs z.elt z.t) Fy Bm:=by
 replace h:=aw h;obtain⟨a,⟨q1,q2,q3,q4,rfl⟩,h⟩:=h;replace h:=aw h;obtain⟨⟨⟨LB,pp⟩,ee,⟨tg,itr,ifs,az⟩,aa,lp⟩,⟨q5,rfl⟩,h⟩:=h;replace h:=aw h;obtain⟨LC,⟨tk,tp,e1⟩,h⟩:=h;obtain rfl:tg=_:=e1;replace h:=aw h;obtain⟨w,⟨pn,e2⟩,h⟩:=h;obtain rfl:itr=_:=e2;obtain rfl:=bE (ll (Kv h));obtain rfl:=agX (n9 (Kv h));obtain rfl:=bE (yj h);intro A F s Φ ρ σ fr hF cx S;exact HZ B (ll h) (pJ h) (Cu h) (bE (JT h)) (Ku h) (sD B FO hC z.xs sc _ (Ku h)).vals (PB h) (bE (Xo h)) (UH h) (sim B FO hC z.elt _ _ (UI h)).1 (YF h) (YG h) hF cx S
mutual
theorem ZQ:∀(x:S) (sc:Sc) (st:Stmt),ckS W.GN W.FN sc x st=true->sE W n C sc x st
 |.assign t x,sc,st,h=>by
  replace h:=aw h;obtain⟨q,⟨p,rfl⟩,h⟩:=h;exact ZO B FO hC h
 |.oN i xs,sc,st,h=>by
  replace h:=aw h;obtain⟨q,⟨_,_,_,rfl⟩,h⟩:=h;exact HN (ll h) (kz (pJ h)) (sD B FO hC xs sc _ (Ct h)).vals
 |.newOf i a,sc,st,h=>by
  replace h:=aw h;obtain⟨q,⟨_,_,_,_,rfl⟩,h⟩:=h;exact El B (ll h) (pJ h) (bE (yj h)) (Cu h) (sim B FO hC a sc _ (Xn h)).1
 |.wO i,sc,st,h=>by
  replace h:=aw h;obtain⟨q,⟨_,_,_,rfl⟩,h⟩:=h;exact HO h
 |.u4 i k v,sc,st,h=>by
  replace h:=aw h;obtain⟨q,⟨_,_,_,rfl⟩,h⟩:=h;exact HQ (ll h) (sim B FO hC k sc _ (pJ h)).1 (sim B FO hC v sc _ (Ct h)).1
 |.app i x,sc,st,h=>by
  replace h:=aw h;obtain⟨q,⟨_,_,rfl⟩,h⟩:=h;exact Lv (ll h) (bE (pJ h)) (yj h) (Cu h) (sim B FO hC x sc _ (Xn h)).1
 |.expr x,sc,st,h=>by
  replace h:=aw h;obtain⟨q,⟨_,rfl⟩,h⟩:=h;exact HP (ll h) (sim B FO hC x sc _ (n9 h)).1
 |.ite c a b,sc,st,h=>by
  replace h:=aw h;obtain⟨q,⟨_,rfl⟩,h⟩:=h;exact Lp (sim B FO hC c sc _ (ll h)).2 (r6 a sc _ (pJ h)) (r6 b sc _ (Ct h))
 |.yv c b,sc,st,h=>by
  replace h:=aw h;obtain⟨q,⟨_,rfl⟩,h⟩:=h;exact HS (sim B FO hC c sc _ (ll h)).2 (r6 b sc _ (n9 h))
 |.i7 t e b,sc,st,h=>by
  replace h:=aw h;obtain⟨q,⟨_,rfl⟩,h⟩:=h;exact HX (ll h) (pJ h) (sim B FO hC e sc _ (yj h)).1 (r6 b sc _ (RU h))
 |.tq i args b,sc,st,h=>by
  replace h:=aw h;obtain⟨q,⟨_,_,_,rfl⟩,h⟩:=h;exact HY B (ll h) (bE (pJ h)) (yj h) (Cu h) (sD B FO hC args sc _ (Cu h)).vals (r6 b sc _ (Xn h))
 |.ret x,sc,st,h=>by
  replace h:=aw h;obtain⟨q,⟨_,rfl⟩,h⟩:=h;exact Lq (sim B FO hC x sc _ h).1
 |.raise,sc,st,h=>by
  replace h:=aw h;obtain⟨q,⟨_,_,_,_,_,_,rfl⟩,h⟩:=h;exact Em B (ll h) (bE (n9 h))
 |.yw i x,sc,st,h=>by
  replace h:=aw h;obtain⟨q,⟨_,_,_,_,_,_,_,_,rfl⟩,h⟩:=h;exact HR B (ll h) (bE (pJ h)) (yj h) ((Bool.not_eq_true' _).mp (Cu h)) (JT h) (bE (Ku h)) (sim B FO hC x sc _ (tl6 h)).1
 |.tr _ _ _ _ _ _,sc,st,h=>Bool.noConfusion h
theorem r6:∀(xs:List S) (sc:Sc) (zk:List Stmt),vo W.GN W.FN sc xs zk=true->ri W n C sc xs zk
 |[],sc,[],h=>Lo
 |[],sc,_::_,h=>Bool.noConfusion h
 |x::xs,sc,[],h=>Bool.noConfusion h
 |x::xs,sc,st::zk,h=>by
  rcases Bool.or_eq_true_iff.mp h with h|h
  .haveI h:=cf h;exact HJ (ZQ x sc _ h.1) (r6 xs sc _ h.2)
  .refine aI (aw h) λ z hx hz=>?_;refine bO hx ?_;induction zk with
   |nil=>exact Bool.noConfusion hz
   |cons Bm zk=>
    exact Et (ZP B FO hC (ll hz)) (r6 xs sc _ (n9 hz))
end
end
noncomputable def ug:List Str->Bool
 |[]=>true
 |n::r=>!(r.contains n)&&ug r
theorem VV:ug (n::r)=(!(r.contains n)&&ug r):=rfl
theorem uh:∀{l:List Str},ug l=true->l.Nodup
 |[],_=>List.nodup_nil
 |n::r,h=>by
  simp only[VV,dN,Bool.not_eq_true'] at h;refine List.nodup_cons.mpr ⟨λ q=>?_,uh h.2⟩;have:=List.contains_iff_mem.mpr q
  haveI this:=h.1▸this;exact Bool.noConfusion this
theorem ui:∀{names:List Str} {vals:List Value} {i:Nat} {x:Str} {v:Value},names.Nodup->names[i]?=some x->vals[i]?=some v->(names.zip vals).lookup x=some v
 |[],_,_,_,_,_,h,_=>by simp at h
 |y::names,[],i,_,_,_,_,h=>by simp at h
 |y::names,w::vals,0,x,v,hn,h1,h2=>by
  simp at h1 h2;subst h1;subst h2;simp[]
 |y::names,w::vals,i+1,x,v,hn,h1,h2=>by
  simp at h1 h2;rw[List.nodup_cons] at hn;have:x≠y:=λ q=>hn.1 (q▸dH h1);haveI hb:(x==y)=false:=by simpa using this
  simp only[List.zip_cons_cons,List.lookup_cons,hb];exact ui hn.2 h1 h2
section
variable {names:List Str}{vals:List Value}
theorem uj(hn:names.Nodup)(hl:vals.length=names.length){x:Str}(hx:x∈names):∃v,(names.zip vals).lookup x=some v:=by
 obtain⟨i,hi⟩:=List.getElem?_of_mem hx;haveI e7:i<vals.length:=by rw[hl];exact(gi.mp hi).1
 exact⟨vals[i],ui hn hi (by simp[e7])⟩
theorem vp(hn:names.Nodup)(hl:vals.length=names.length):names.filterMap (λ n=>((names.zip vals).lookup n).map (n,·))=names.zip vals:=by
 haveI key:∀(pre:List (Str×Value)) (ns:List Str) (vs:List Value),vs.length=ns.length->((pre.map (·.1))++ns).Nodup->ns.filterMap (λ n=>((pre++ns.zip vs).lookup n).map (n,·))=ns.zip vs:=by
  intro pre ns;induction ns generalizing pre with
  |nil=>intro vs _ _;rfl
  |cons n ns ih=>
   intro vs hl hn;cases vs with
   |nil=>cases hl
   |cons v vs=>
    haveI VW:(pre++(n,v)::ns.zip vs).lookup n=some v:=by
     haveI VX:∀p∈pre,p.1≠n:=λ p hp q=>by
      rw[List.nodup_append] at hn;exact hn.2.2 p.1 (List.mem_map_of_mem hp) n dC q
     clear ih hn;induction pre with
     |nil=>simp[]
     |cons p pre ih'=>
      haveI:(n==p.1)=false:=by simpa using Ne.symm (VX p dC)
      refine bO (List.cons_append ..) ?_;obtain⟨p1,p2⟩:=p;simp only at this;simp only[List.lookup_cons,this];exact ih' λ q hq=>VX q (d8 _ hq)
    simp only[List.zip_cons_cons,List.filterMap_cons,VW,Option.map_some];congr 1;haveI:=ih (pre++[(n,v)]) vs (by simpa using hl) (by simpa using hn);simpa using this
 simpa using key [] names vals hl (by simpa using hn)
noncomputable def jQ(p:Arguments):Bool:=p.posonlyargs.isEmpty&&p.vararg.isNone&&p.kwonlyargs.isEmpty&&p.kwarg.isNone
theorem Bo(hp:jQ fd.params=true)(hd:fd.defaults=.none)(hn:(fd.params.args.map (·.arg)).Nodup)(hl:vals.length=(fd.params.args.map (·.arg)).length):bindArgs fd ⟨vals,[]⟩=pure ((fd.params.args.map (·.arg)).zip vals):=by
 obtain⟨nm,qn,⟨po,ar,va,ko,kd,ka,df⟩,bd,sc,gl,cl,de,kw,dc,pm,an,co,ct,bu⟩:=fd;simp only[jQ,dN,List.isEmpty_iff,Option.isNone_iff_eq_none] at hp;obtain⟨⟨⟨rfl,rfl⟩,rfl⟩,rfl⟩:=hp;subst hd;have hm:(((ar.map (·.arg)).take (ar.map (·.arg)).length).filter λ n=>(((ar.map (·.arg)).zip vals).lookup n).isNone)=[]:=by
  rw[List.take_length,List.filter_eq_nil_iff];intro x hx;obtain⟨v,hv⟩:=uj hn hl hx;simp[hv]
 refine(if_neg (show¬(decide (vals.length > (ar.map (·.arg)).length)&&true)=true from λ q=>by rw[hl] at q;simp at q)).trans ?_;haveI hz:=vp hn hl;simp only[Option.getD_none,List.map_nil,List.nil_append,List.append_nil,List.forIn_nil,List.length_nil,List.drop_nil,Nat.sub_zero,List.zip_nil_right,pure_bind,List.isEmpty_nil,Bool.not_true,Bool.false_eq_true,if_false,hm,hz]
end
noncomputable def ei(d:DefRec):List Str:=d.params.args.map (·.arg)++((d.scope.names.filter λ(n,k)=>(k==.local || k==.cell)&&!((d.params.args.map (·.arg)).contains n)).map (·.1))
def Ey(d:DefRec):Sc:=⟨d.scope.names,(ei d).map some⟩
def VY(GN FN:List Str)(fd:FD)(d:DefRec):Bool:=
 jQ d.params&&d.scope.kind==.function&&!d.scope.isCoroutine&&!d.scope.isGenerator&&ug (ei d)&&((ei d).all λ x=>d.scope.names.lookup x==some NameKind.local || d.scope.names.lookup x==some NameKind.cell) &&
  fd.mN==d.params.args.length&&fd.tu==(ei d).length&&vo GN FN (Ey d) fd.body d.body
structure H8(W:Wd)(ds:List DefRec):Prop where
 fn:∀d∈ds,∃a o pm code doc,W.mg d.name=some (.ref a)/\W.h₀.get? a=some o/\o.data=.func (Calls.docDef d.name d.params d.body d.scope pm code doc)/\W.h₀.CodeRec code d.name
 tab:∀(f:Nat) (name:Str),W.FN[f]?=some name->∃d∈ds,∃fd,d.name=name/\W.FT[f]?=some fd/\VY W.GN W.FN fd d=true
theorem H8.ok(F:H8 W ds):w6 W:=λ f name h=>by
 obtain⟨d,hd,fd,rfl,_,_⟩:=F.tab f name h;obtain⟨a,o,pm,code,doc,h1,h2,h3,_⟩:=F.fn d hd;exact⟨a,o,_,h1,h2,h3⟩
theorem km:∀(names:List (Str×NameKind)) (n:Nat) (acc:List (Str×Addr)) (x:Str),((x,NameKind.cell)∈names\/∃c,(x,c)∈acc)->∃c,(x,c)∈cellsFrom n names acc
 |[],n,acc,x,h=>by
  rcases h with h|h
  .cases h
  .exact h
 |(y,k)::r,n,acc,x,h=>by
  unfold cellsFrom;split
  .rename_i hk;refine km r (n+1) _ x ?_;rcases h with h|⟨c,h⟩
   .rcases e8.mp h with e|h
    .cases e;exact .inr ⟨n,dC⟩
    .exact .inl h
   .exact .inr ⟨c,d8 _ h⟩
  .rename_i hk;refine km r n _ x ?_;rcases h with h|h
   .rcases e8.mp h with e|h
    .cases e;exact absurd rfl hk
    .exact .inl h
   .exact .inr h
theorem kQ(h:names.lookup x=some .cell):∃c,(cellsFrom n names []).lookup x=some c:=by
 obtain⟨c,hc⟩:=km names n [] x (.inl (mem_of_lookup h));exact kh hc
theorem r7{kindOf:Str->Option NameKind}:∀{binds:List (Str×Value)} {m:Str->Option Value} {x:Str},(∀p∈binds,p.1≠x)->bindL kindOf binds m x=m x
 |[],_,_,_=>rfl
 |(n,v)::r,m,x,h=>by
  unfold bindL;rw[r7 λ p hp=>h p (d8 _ hp)];have:x≠n:=Ne.symm (h (n,v) dC);split<;>simp[this]
theorem r8{kindOf:Str->Option NameKind}:∀{binds:List (Str×Value)} {m:Str->Option Value} {x:Str},(∀p∈binds,p.1≠x)->bindC kindOf binds m x=m x
 |[],_,_,_=>rfl
 |(n,v)::r,m,x,h=>by
  unfold bindC;rw[r8 λ p hp=>h p (d8 _ hp)];have:x≠n:=Ne.symm (h (n,v) dC);split<;>simp[this]
theorem H9:∀{names:List Str} {vals:List Value} {x:Str},x∉names->∀p∈names.zip vals,p.1≠x:=λ hx p hp q=>hx (q▸(List.of_mem_zip hp).1)
theorem zy{kindOf:Str->Option NameKind}:∀{names:List Str} {vals:List Value} {m:Str->Option Value} {i:Nat} {x:Str} {v:Value},names.Nodup->names[i]?=some x->vals[i]?=some v->kindOf x=some .local->bindL kindOf (names.zip vals) m x=some v
 |[],_,_,_,_,_,_,h,_,_=>by simp at h
 |y::names,[],_,_,_,_,_,_,h,_=>by simp at h
 |y::names,w::vals,m,0,x,v,hn,h1,h2,hk=>by
  simp at h1 h2;subst h1;subst h2;rw[List.nodup_cons] at hn;rw[List.zip_cons_cons];unfold bindL;rw[r7 (H9 hn.1),if_pos hk];simp
 |y::names,w::vals,m,i+1,x,v,hn,h1,h2,hk=>by
  simp at h1 h2;rw[List.nodup_cons] at hn;rw[List.zip_cons_cons];unfold bindL;exact zy hn.2 h1 h2 hk
theorem zz{kindOf:Str->Option NameKind}:∀{names:List Str} {vals:List Value} {m:Str->Option Value} {i:Nat} {x:Str} {v:Value},names.Nodup->names[i]?=some x->vals[i]?=some v->kindOf x≠some .local->bindC kindOf (names.zip vals) m x=some v
 |[],_,_,_,_,_,_,h,_,_=>by simp at h
 |y::names,[],_,_,_,_,_,_,h,_=>by simp at h
 |y::names,w::vals,m,0,x,v,hn,h1,h2,hk=>by
  simp at h1 h2;subst h1;subst h2;rw[List.nodup_cons] at hn;rw[List.zip_cons_cons];unfold bindC;rw[r8 (H9 hn.1),if_neg hk];simp
 |y::names,w::vals,m,i+1,x,v,hn,h1,h2,hk=>by
  simp at h1 h2;rw[List.nodup_cons] at hn;rw[List.zip_cons_cons];unfold bindC;exact zz hn.2 h1 h2 hk
theorem yB.get:∀{vs:List Value} {xs:List V} {i:Nat} {x:V},yB Φ ρ vs xs->xs[i]?=some x->∃v,vs[i]?=some v/\VR Φ ρ v x
 |[],[],_,_,_,h=>by simp at h
 |[],_::_,_,_,r,_=>r.elim
 |_::_,[],_,_,r,_=>r.elim
 |v::vs,y::xs,0,x,r,h=>by simp at h;subst h;exact⟨v,by simp,r.1⟩
 |v::vs,y::xs,i+1,x,r,h=>by simp at h;obtain⟨u,h1,h2⟩:=yB.get r.2 h;exact⟨u,by simpa using h1,h2⟩
section
variable {Φ:Fz}{ρ:List Addr}
theorem Inv.cut(I:Inv W Φ (ρ++r) σ h):Inv W Φ ρ (σ.take ρ.length) h:=by
 haveI agw:=I.len;haveI agw:=cO▸agw;refine⟨I.base,I.fe,by refine bO (List.length_take ..) ?_;exact(Nat.min_eq_left (ao (cU ..) (bV agw))).symm,λ i a c h1 h2=>?_,(List.nodup_append.mp I.nodup).1,λ a ha=>I.apart a (List.mem_append_left _ ha)⟩;haveI hi:=(gi.mp h1).1;refine I.cell i a c (by rw[i0 hi];exact h1) ?_;haveI h2:=List.getElem?_take▸h2
 rwa [if_pos hi] at h2
structure CkF(GN FN:List Str)(fd:FD)(d:DefRec):Prop where
 plain:jQ d.params=true
 kind:d.scope.kind=.function
 co:d.scope.isCoroutine=false
 gen:d.scope.isGenerator=false
 nodup:(ei d).Nodup
 kinds:∀x∈ei d,d.scope.names.lookup x=some .local\/d.scope.names.lookup x=some .cell
 mN:fd.mN=d.params.args.length
 tu:fd.tu=(ei d).length
 body:vo GN FN (Ey d) fd.body d.body=true
theorem LD(h:VY GN FN fd d=true):CkF GN FN fd d:=by
 simp only[VY,dN,beq_iff_eq,Bool.not_eq_true',fX,Bool.or_eq_true] at h;obtain⟨⟨⟨⟨⟨⟨⟨⟨h1,h2⟩,h3⟩,h4⟩,h5⟩,h6⟩,h7⟩,h8⟩,h9⟩:=h;exact⟨h1,h2,h3,h4,uh h5,h6,h7,h8,h9⟩
theorem Ia{W:Wd}{σ:ae}{s aL:Shared}(ck:CkF GN FN fd d)(iJ:fdat.scope=d.scope)(hgl:fdat.globals=mainGlobals)(I:Inv W Φ ρ σ s.heap)(SO:bh l Φ ρ s.heap)(r:yB Φ ρ vs xs)(hl:xs.length=fd.mN)(x:InCallC s (callEnvC fdat s.heap.objs.size a).locals (bindL (callEnvC fdat s.heap.objs.size a).kindOf ((d.params.args.map (·.arg)).zip vs) λ _=>none) (callEnvC fdat s.heap.objs.size a).cells
    (bindC (callEnvC fdat s.heap.objs.size a).kindOf ((d.params.args.map (·.arg)).zip vs) λ _=>none) aL):SS W ⟨callEnvC fdat s.heap.objs.size a,l,s.heap.objs.size,callEnvC fdat s.heap.objs.size a,Ey d,Φ,s.heap,ρ⟩ Φ ρ σ (xs.map some++List.replicate (fd.tu - fd.mN) none) aL.heap:=by
 have Ib:=x.toInCall.keep;have cG:=x.toInCall.ns;have hL:s.heap.get? s.heap.objs.size=none:=Heap.br _;have tG:∀y,(callEnvC fdat s.heap.objs.size a).kindOf y=d.scope.names.lookup y:=λ y=>by show fdat.scope.names.lookup y=_;rw[iJ]
 have A1:(callEnvC fdat s.heap.objs.size a).cells=cellsFrom (s.heap.objs.size+1) d.scope.names []:=by show cellsFrom _ fdat.scope.names []=_;rw[iJ]
 have ZR:(callEnvC fdat s.heap.objs.size a).locals=s.heap.objs.size:=rfl;have Oi:∀y c,(callEnvC fdat s.heap.objs.size a).cells.lookup y=some c->s.heap.get? c=none:=λ y c hc=>bQ (Nat.le_of_lt (x.above y c (mem_of_lookup hc)));have du:=I.ext Ib;have oC:∀b,b∈ρ->∃o,s.heap.get? b=some o:=λ b hb=>I.live hb;refine⟨⟨du,λ env he=>?_,agA.bo Ib,[],by simp,by simp⟩,⟨⟨_,cG⟩,I.bp hL,(λ q=>by obtain⟨o,e⟩:=oC _ q;rw[ZR,hL] at e;cases e),λ y c hc=>?_,λ y z c h1 h2=>?_,λ i y hy=>?_,λ i j y h1 h2=>?_,?_⟩,λ b hb=>?_⟩
 .rcases e8.mp he with rfl|he
  .obtain⟨o,es,ep,ho,hd,_⟩:=cG;refine⟨?_,s.heap.objs.size,o,rfl,ho,λ vs q=>(by rw[hd] at q;cases q),I.bp hL,λ q=>?_⟩
   .show fdat.scope.kind≠.module;simp only[iJ,ck.kind];decide
   .obtain⟨o',e⟩:=oC _ q;rw[hL] at e;cases e
  .obtain⟨k,L',o,p1,p2,p3,p4,p5⟩:=SO env he;exact⟨k,L',o,p1,Ib _ _ p2,p3,p4,p5⟩
 .have hn:=Oi y c hc;refine⟨⟨_,x.cell y c hc⟩,I.bp hn,λ q=>?_,Nat.ne_of_gt (x.above y c (mem_of_lookup hc))⟩;obtain⟨o,e⟩:=oC _ q;rw[hn] at e;cases e
 .exact name_of_addr x.apart (mem_of_lookup h1) (mem_of_lookup h2)
 .have VZ:(ei d)[i]?=some y:=by
   haveI:((ei d).map some)[i]?=some (some y):=hy;rw[List.getElem?_map] at this;cases q:(ei d)[i]? with
   |none=>rw[q] at this;cases this
   |some z=>rw[q] at this;simp at this;rw[this]
  have vj:y∈ei d:=dH VZ;have XB:(d.params.args.map (·.arg)).Nodup:=(List.nodup_append.mp ck.nodup).1
  -- the agx of a parameter
  have par:∀v,(xs.map some++List.replicate (fd.tu - fd.mN) none)[i]?=some (some v)->(d.params.args.map (·.arg))[i]?=some y/\∃u,vs[i]?=some u/\VR Φ ρ u v:=λ v hv=>by
   by_cases hi:i<xs.length
   .rw[i0 (by simpa using hi),List.getElem?_map] at hv;cases q:xs[i]? with
    |none=>rw[q] at hv;cases hv
    |some z=>
     rw[q] at hv;simp at hv;subst hv;refine⟨?_,r.get q⟩;unfold ei at VZ
     rwa [i0 (by simp only[bR,←ck.mN,←hl];exact hi)] at VZ
   .rw[ot (by simp;exact jI hi),List.getElem?_replicate] at hv;split at hv<;>cases hv
  rcases ck.kinds y vj with hk|hk
  .refine⟨_,.loc ((tG y).trans hk) _ cG rfl,λ v hv=>?_⟩;obtain⟨p1,u,p2,p3⟩:=par v hv;exact⟨u,zy XB p1 p2 ((tG y).trans hk),p3⟩
  .obtain⟨c,hc⟩:=kQ (n:=s.heap.objs.size+1) hk;rw[←A1] at hc;refine⟨_,.Pn ((tG y).trans hk) c hc (x.cell y c hc),λ v hv=>?_⟩;obtain⟨p1,u,p2,p3⟩:=par v hv;exact⟨u,zz XB p1 p2 (by simp only[tG y,hk];decide),p3⟩
 .haveI e1:(ei d)[i]?=some y:=by
   have:((ei d).map some)[i]?=some (some y):=h1
   simpa[List.getElem?_map] using this
  haveI e2:(ei d)[j]?=some y:=by
   haveI:((ei d).map some)[j]?=some (some y):=h2;simpa[List.getElem?_map] using this
  exact(List.getElem?_inj (gi.mp e1).1 ck.nodup).mp (e1.trans e2.symm)
 .show(xs.map some++List.replicate (fd.tu - fd.mN) none).length=((ei d).map some).length;haveI:d.params.args.length<=(ei d).length:=by unfold ei;simp
  haveI h1:=ck.mN;haveI h2:=ck.tu;simp only[cO,bR,List.length_replicate];rw[hl,←h2,Nat.add_sub_of_le (by rw[h1,h2];exact this)]
 .rcases hb with rfl|⟨y,hc⟩
  .exact hL
  .exact Oi y b hc
theorem Bp{X:Addr->Prop}(hf:env.frame=some L)(hL:h.get? L=none)(k:Kp X (cK (env::l)) h h'):Kp X (cK l) h h':=by
 refine k.Uk (λ _ _ _ q=>q) λ a o e hx q=>?_;obtain⟨me,uX,J2⟩:=kx.mp q;rcases e8.mp uX with rfl|uX
 .haveI J2:=hf▸J2;obtain rfl:=bD J2;rw[hL] at e;cases e
 .exact kx.mpr ⟨me,uX,J2⟩
theorem bA.cut(T:bA Φ (ρ++r) L h h' e c):bA Φ ρ L h h' e c:=by
 obtain⟨a,b,d,oe,vs,h1,h2,h3,h4⟩:=T;refine⟨a,b,λ q=>d (List.mem_append_left _ q),oe,vs,h1,h2,h3,?_⟩;induction h4 with
 |none q z=>exact .none q z
 |some a b c d e f g k=>exact .some a b c d (λ q=>e (List.mem_append_left _ q)) f g k
theorem zE(B:agY W)(FN:H8 W ds):∀n,w5 W n (pU W.FT W.G n)
 |0=>by
  intro f name a hf hm A l L ρ Φ σ s vs xs _ _ _ _ _ _ _;exact au.stuck
 |n+1=>by
  haveI ih:=zE B FN n;intro f name a hf hm A l L ρ Φ σ s vs xs nG hh V0 Vw I SO r;obtain⟨d,hd,fd,rfl,hft,pK⟩:=FN.tab f name hf;have ck:=LD pK;obtain⟨a',o,pm,code,doc,h1,h2,h3,h4⟩:=FN.fn d hd;rw[hm] at h1;cases h1;show au W l L ρ _ Φ s (match W.FT[f]? with
   |some fd=>if xs.length=fd.mN then agO σ.length (aD W.G (pU W.FT W.G n) fd.body (xs.map some++List.replicate (fd.tu - fd.mN) none) σ) else .stuck
   |none=>.stuck) _
  rw[hft];refine au.ite (λ hl=>?_) λ _=>.stuck;intro Q E cG fg fk;haveI Kk:vs.length=(d.params.args.map (·.arg)).length:=by simp only[r.length,hl,ck.mN,bR]
  have XB:(d.params.args.map (·.arg)).Nodup:=(List.nodup_append.mp ck.nodup).1;haveI hL:s.heap.get? s.heap.objs.size=none:=Heap.br _;refine wpAny_call (codeAny_call_cells (by exact MU V0) (I.keeps a o h2) h3 (B.nolimit.keeps I.keeps) (h4.keeps I.keeps) rfl (Bo (fd:=Calls.docDef d.name d.params d.body d.scope pm code doc) ck.plain rfl XB Kk) rfl (λ y hy=>?_) (λ aL x=>?_) ck.co ck.gen ck.kind)
  .haveI VZ:y.1∈ei d:=List.mem_append_left _ (List.of_mem_zip hy).1;rcases ck.kinds y.1 VZ with hk|hk
   .exact .inl hk
   .obtain⟨c,hc⟩:=kQ (n:=s.heap.objs.size+1) hk;exact .inr ⟨hk,by show((cellsFrom _ d.scope.names []).lookup y.1).isSome=true;rw[hc];rfl⟩
  .haveI S:=Ia ck (fdat:=Calls.docDef d.name d.params d.body d.scope pm code doc) rfl rfl I SO r hl x;obtain⟨h',tk,rfl⟩:=x.toInCall.same;have cx:Cx W n (A.deeper (callEnvC (Calls.docDef d.name d.params d.body d.scope pm code doc) s.heap.objs.size a)) (callEnvC (Calls.docDef d.name d.params d.body d.scope pm code doc) s.heap.objs.size a) l s.heap.objs.size (callEnvC (Calls.docDef d.name d.params d.body d.scope pm code doc) s.heap.objs.size a) (Ey d):=by
    refine⟨?_,rfl,rfl,hh,?_,?_,ck.kind,rfl,rfl,rfl⟩
    .show A.frames.map _=_;rw[nG];rfl
    .show A.depth+1+n<recursionLimit;exact TN V0
    .show A.units+3+3 * n+1100<cLine;exact TP Vw
   generalize aep:callEnvC (Calls.docDef d.name d.params d.body d.scope pm code doc) s.heap.objs.size a=env at S cx x ⊢;have DN:env.frame=some s.heap.objs.size:=cx.f;have agw:ρ.length=σ.length:=I.len;refine r6 B FN.ok ih fd.body (Ey d) d.body ck.body (F:=⟨env,l,s.heap.objs.size,env,Ey d,Φ,s.heap,ρ⟩) (s:={ s with heap:=h',toks:=tk}) rfl cx S _ _ ?_ ?_ ?_ ?_
   .intro q;exact cG (by rw[q];rfl)
   .intro aR aM Φ' eT cb k e S' M;obtain⟨r',Gw,_⟩:=S'.se.pre;haveI I':=S'.se.inv;rw[show eT=ρ++r' from Gw] at I';haveI tB:=I'.cut;rw[agw] at tB;exact fg .none (.d .none) (aM.take σ.length) Φ' cb k (by rw[e];rfl) tB ⟨S'.se.st.ext,S'.se.st.fresh,Bp DN hL S'.se.st.kp⟩ RD.none
   .intro u v aM Φ' eT cb k e S' rv;obtain⟨r',Gw,gP⟩:=S'.pre;haveI Qt:eT=ρ++r':=Gw;subst Qt;have I':=S'.inv;have tB:=I'.cut;rw[agw] at tB;have St:agA ρ (cK l) Φ s.heap Φ' cb:=⟨S'.st.ext,S'.st.fresh,Bp DN hL S'.st.kp⟩;induction v with
    |d y=>exact fg u (.d y) (aM.take σ.length) Φ' cb k (by rw[e];rfl) tB St rv
    |loc m=>
     obtain⟨b,hb,rfl⟩:=rv;by_cases sA:m<σ.length
     .refine fg (.ref b) (.loc m) (aM.take σ.length) Φ' cb k (by rw[e];simp[agO,sA]) tB St ⟨b,?_,rfl⟩
      rwa [i0 (by exact Nat.lt_of_lt_of_eq sA agw.symm)] at hb
     .cases hq:aM[m]? with
      |none=>exfalso;apply cG;rw[e];simp[agO,sA,hq]
      |some c=>
       induction c with
       |dct fc=>exfalso;apply cG;rw[e];simp[agO,sA,hq]
       |lst ys=>
        obtain⟨ws,mm,hg,rs⟩:=I'.cell m b _ hb hq;have ZS:b∈r':=by
         rw[ot (by exact Nj agw sA)] at hb;exact dH hb
        haveI hbn:s.heap.get? b=none:=gP b ZS;have ZT:Φ' b=none:=I'.apart b (List.mem_append_right _ ZS);have ZU:b∉ρ:=λ q=>(List.nodup_append.mp I'.nodup).2.2 b q b ZS rfl;have oQ:∀a o,Φ' a=some o->(Φ'.add b (dE ws mm)) a=some o:=λ a o q=>by
         haveI:a≠b:=neN q ZT;simp[Fz.add,this,q]
        refine fg (.ref b) (.d (.list ys)) (aM.take σ.length) (Φ'.add b (dE ws mm)) cb k (by rw[e];simp[agO,sA,hq]) ?_ ?_ (RD.list (Fz.hU ..) (rs.mono oQ))
        .refine⟨λ a o q=>oQ a o (tB.base a o q),λ a o q=>?_,tB.len,λ i a c p1 p2=>(tB.cell i a c p1 p2).mono oQ λ _ q=>q,tB.nodup,λ a ha=>?_⟩
         .by_cases z:a=b
          .subst z;simp[Fz.add] at q;subst q;exact hg
          .simp[Fz.add,z] at q;exact tB.fe a o q
         .have:a≠b:=by rintro rfl;exact ZU ha
          simp[Fz.add,this,tB.apart a ha]
        .refine⟨λ a o q=>oQ a o (St.ext a o q),λ a o q=>?_,St.kp⟩;haveI:a≠b:=neN q hbn;simp[Fz.add,this,St.fresh a o q]
   .intro e aM Φ' eT cb k q S' T;obtain⟨r',Gw,_⟩:=S'.pre;have Qt:eT=ρ++r':=Gw;subst Qt;refine Gq (s:={ s with heap:=cb,toks:=k}) (h:=s.heap) (X:=(·∈ρ)) cx.frames cx.f0 cx.f rfl S'.pZ S'.inv S'.st.kp T λ aO fE iC VF ql=>?_;have tB:=fE.cut;rw[agw] at tB;exact fk e (aM.take σ.length) Φ' aO k (by rw[q];rfl) tB ⟨S'.st.ext,S'.st.fresh,Bp DN hL iC⟩ (ql L).cut
end
end Internal
namespace Internal
open PySem
noncomputable def st(i:Nat):Str:=Top.st i
noncomputable abbrev Dv(x:PyData):Option V:=some (.d x)
noncomputable abbrev Iv(x:Int):Option V:=some (.d (.int x))
noncomputable abbrev Qi(x:Int):E:=.con (.int x)
abbrev Qs(x:Nat):E:=.con (.str (st x))
noncomputable abbrev Qx(x:Nat)(y:Int):E:=.idx (.var x) (.con (.int y))
noncomputable def GN:List Str:=Top.GN
noncomputable def G:List PyData:=Top.G
def b0:List S:=[.ret (.tup [(Qs 2),(.var 0),(.var 1)])]
def f0:FD:=⟨2,2,b0⟩
def b1:List S:=[.assign (.var 1) (Qx 0 0),.ite (.cmp .eq (.var 1) (Qs 3)) [.ret (Qx 0 2)] [],.ite (.cmp .eq (.var 1) (Qs 4)) [.assign (.var 2) (Qx 0 2),.ite (.and [(.cmp .eq (Qx 0 1) (Qs 5)),(.not (.and [(.cmp .eq (Qx 2 0) (Qs 2)),(.cmp .eq (Qx 2 2) (.call 0 [(Qx 2 1),(.glob 0)]))]))]) [.raise] [],.ret (.var 2)] [],.ite (.cmp .eq (.var 1) (Qs 6)) [.ret (.call 0 [(.idx (Qx 0 1) (Qi 2)),(.call 1 [(Qx 0 2)])])] [],.assign (.var 3) (.call 1 [(Qx 0 1)]),.assign (.var 4) (.call 1 [(Qx 0 2)]),.ite (.or [(.cmp .ne (Qx 3 0) (Qs 2)),(.cmp .ne (Qx 3 1) (.var 4))]) [.raise] [],.ret (Qx 3 2)]
def f1:FD:=⟨1,5,b1⟩
def b2:List S:=[.ite (.cmp .eq (Qx 0 0) (Qs 3)) [.ite (.and [(.cmp .nZ (.var 0) (.var 1)),(.cmp .nZ (.var 0) (.var 2))]) [.app 2 (.var 0)] []] [.ite (.cmp .eq (Qx 0 0) (Qs 7)) [.expr (.call 2 [(Qx 0 1),(.var 1),(.var 2)]),.expr (.call 2 [(Qx 0 2),(.var 1),(.var 2)])] [.ite (.cmp .eq (Qx 0 0) (Qs 6)) [.expr (.call 2 [(Qx 0 2),(.bin .add (.var 1) (.lst [(Qx 0 1)])),(.var 2)])] []]]]
def f2:FD:=⟨3,3,b2⟩
noncomputable def b3:List S:=[.oN 1 [],.expr (.call 2 [(.var 0),(.lst []),(.var 1)]),.ret (.var 1)]
def f3:FD:=⟨1,2,b3⟩
def b4:List S:=[.ite (.cmp .eq (Qx 0 0) (Qs 3)) [.tq 2 [(.bin .sub (.len (.var 1)) (Qi 1)),(.neg (Qi 1)),(.neg (Qi 1))] [.ite (.cmp .eq (.idx (.var 1) (.var 2)) (.var 0)) [.ret (.tup [(Qs 8),(.var 2)])] []],.ret (.var 0)] [],.ite (.cmp .eq (Qx 0 0) (Qs 4)) [.ret (.var 0)] [],.ite (.cmp .eq (Qx 0 0) (Qs 7)) [.ret (.tup [(Qs 7),(.call 4 [(Qx 0 1),(.var 1)]),(.call 4 [(Qx 0 2),(.var 1)])])] [],.ret (.tup [(Qs 6),(.idx (Qx 0 1) (Qi 2)),(.call 4 [(Qx 0 2),(.bin .add (.var 1) (.lst [(Qx 0 1)]))])])]
def f4:FD:=⟨2,3,b4⟩
noncomputable def b5:List S:=[.ret (.cmp .eq (.call 4 [(.var 0),(.lst [])]) (.call 4 [(.var 1),(.lst [])]))]
def f5:FD:=⟨2,2,b5⟩
def b6:List S:=[.ite (.or [(.cmp .eq (.len (.var 0)) (Qi 0)),(.cmp .eq (Qx 1 0) (Qs 4))]) [.ret (.var 1)] [],.ite (.cmp .eq (Qx 1 0) (Qs 3)) [.i7 (.tup [(.var 2),(.var 3)]) (.var 0) [.ite (.cmp .eq (.var 2) (.var 1)) [.ret (.var 3)] []],.ret (.var 1)] [],.ite (.cmp .eq (Qx 1 0) (Qs 7)) [.ret (.tup [(Qs 7),(.call 6 [(.var 0),(Qx 1 1)]),(.call 6 [(.var 0),(Qx 1 2)])])] [],.assign (.var 2) (Qx 1 1),.assign (.var 4) (.call 3 [(Qx 1 2)]),.oN 5 [],.assign (.var 6) (.con (.bool false)),.assign (.var 8) (.comp 2 (Qx 13 1) (.var 13) (.var 4) []),.i7 (.tup [(.var 7),(.var 3)]) (.var 0) [.ite (.and [(.cmp .ne (.var 7) (.var 2)),(.cmp .mem (.var 7) (.var 4))]) [.app 5 (.tup [(.var 7),(.var 3)]),.assign (.var 9) (.call 3 [(.var 3)]),.ite (.cmp .mem (.var 2) (.var 9)) [.assign (.var 6) (.con (.bool true))] [],.assign (.var 8) (.bin .add (.var 8) (.comp 2 (Qx 13 1) (.var 13) (.var 9) []))] []],.ite (.var 6) [.assign (.var 10) (Qx 2 1),.yv (.cmp .mem (.var 10) (.var 8)) [.assign (.var 10) (.bin .add (.var 10) (Qs 9))],.assign (.var 11) (.tup [(Qs 3),(.var 10),(Qx 2 2)]),.app 5 (.tup [(.var 2),(.var 11)]),.assign (.var 2) (.var 11)] [],.ret (.tup [(Qs 6),(.var 2),(.call 6 [(.var 5),(Qx 1 2)])])]
def f6:FD:=⟨2,12,b6⟩
def b7:List S:=[.i7 (.tup [(.var 2),(.var 3)]) (.var 0) [.ite (.cmp .ne (.call 1 [(.var 3)]) (Qx 2 2)) [.raise] []],.ret (.call 6 [(.oA (.var 0)),(.var 1)])]
def f7:FD:=⟨2,4,b7⟩
def b8:List S:=[.assign (.var 2) (.call 1 [(.var 0)]),.ret (.tup [(Qs 7),(.tup [(Qs 7),(.tup [(Qs 4),(Qs 5),(.call 0 [(.var 2),(.call 0 [(.var 2),(.glob 0)])])]),(.var 0)]),(.var 1)])]
def f8:FD:=⟨2,3,b8⟩
def b9:List S:=[.ret (.and [(.cmp .eq (Qx 0 0) (Qs 7)),(.cmp .eq (.idx (Qx 0 1) (Qi 0)) (Qs 7)),(.cmp .eq (.idx (.idx (Qx 0 1) (Qi 1)) (Qi 0)) (Qs 4)),(.cmp .eq (.idx (.idx (Qx 0 1) (Qi 1)) (Qi 1)) (Qs 5))])]
def f9:FD:=⟨1,1,b9⟩
def b10:List S:=[.ite (.not (.call 9 [(.var 0)])) [.raise] [],.ret (.tup [(.idx (Qx 0 1) (Qi 2)),(Qx 0 2)])]
def f10:FD:=⟨1,1,b10⟩
noncomputable def b11:List S:=[.i7 (.var 2) (.var 1) [.ite (.call 5 [(.var 0),(.var 2)]) [.ret (.con (.bool true))] []],.ret (.con (.bool false))]
def f11:FD:=⟨2,3,b11⟩
noncomputable def b12:List S:=[.newOf 2 (.var 0),.i7 (.var 3) (.var 1) [.ite (.not (.call 11 [(.var 3),(.var 2)])) [.app 2 (.var 3)] []],.ret (.l5 (.var 2))]
def f12:FD:=⟨2,4,b12⟩
noncomputable def b13:List S:=[.ret (.l5 (.comp 4 (.var 3) (.var 3) (.var 0) [(.not (.call 5 [(.var 1),(.var 3)]))]))]
def f13:FD:=⟨2,2,b13⟩
def b14:List S:=[.ite (.cmp .eq (Qx 0 0) (Qs 3)) [.ite (.cmp .nZ (.var 0) (.var 1)) [.app 1 (.var 0)] []] [.ite (.cmp .eq (Qx 0 0) (Qs 7)) [.expr (.call 14 [(Qx 0 1),(.var 1)]),.expr (.call 14 [(Qx 0 2),(.var 1)])] [.ite (.cmp .eq (Qx 0 0) (Qs 6)) [.ite (.cmp .nZ (Qx 0 1) (.var 1)) [.app 1 (Qx 0 1)] [],.expr (.call 14 [(Qx 0 2),(.var 1)])] []]]]
def f14:FD:=⟨2,2,b14⟩
def b15:List S:=[.ite (.cmp .eq (Qx 1 0) (Qs 10)) [.i7 (.tup [(.var 2),(.var 3)]) (.var 0) [.ite (.cmp .eq (.var 2) (Qx 1 1)) [.ret (.var 3)] []],.ret (.var 1)] [],.ite (.cmp .eq (Qx 1 0) (Qs 2)) [.ret (.call 0 [(.call 15 [(.var 0),(Qx 1 1)]),(.call 15 [(.var 0),(Qx 1 2)])])] [],.ret (.var 1)]
def f15:FD:=⟨2,4,b15⟩
def b16:List S:=[.ite (.cmp .mem (Qx 1 0) (.tup [(Qs 3),(Qs 4)])) [.ret (.tup [(Qx 1 0),(Qx 1 1),(.call 15 [(.var 0),(Qx 1 2)])])] [],.ret (.tup [(Qx 1 0),(.call 16 [(.var 0),(Qx 1 1)]),(.call 16 [(.var 0),(Qx 1 2)])])]
def f16:FD:=⟨2,2,b16⟩
def b17:List S:=[.ite (.cmp .eq (Qx 0 0) (Qs 2)) [.ret (.or [(.call 17 [(Qx 0 1)]),(.call 17 [(Qx 0 2)])])] [],.ret (.cmp .eq (Qx 0 0) (Qs 10))]
def f17:FD:=⟨1,1,b17⟩
def b18:List S:=[.ite (.cmp .mem (Qx 0 0) (.tup [(Qs 3),(Qs 4)])) [.ret (.call 17 [(Qx 0 2)])] [],.ret (.or [(.call 18 [(Qx 0 1)]),(.call 18 [(Qx 0 2)])])]
def f18:FD:=⟨1,1,b18⟩
def b19:List S:=[.ite (.and [(.cmp .eq (Qx 1 0) (Qs 4)),(.cmp .ne (Qx 1 1) (Qs 5))]) [.ite (.or [(.qW true (Qx 1 1) 0),(.cmp .ne (.u0 0 (Qx 1 1)) (Qx 1 2))]) [.raise] []] [],.ite (.cmp .eq (Qx 1 0) (Qs 7)) [.expr (.call 19 [(.var 0),(Qx 1 1)]),.expr (.call 19 [(.var 0),(Qx 1 2)])] [],.ite (.cmp .eq (Qx 1 0) (Qs 6)) [.expr (.call 19 [(.var 0),(Qx 1 2)])] []]
def f19:FD:=⟨2,2,b19⟩
noncomputable def b20:List S:=[.expr (.call 19 [(.var 0),(.var 1)]),.ret (.call 1 [(.var 1)])]
def f20:FD:=⟨2,2,b20⟩
def b21:List S:=[.ite (.or [(.cmp .lt (.var 1) (Qi 0)),(.cmp .ge (.var 1) (.len (.var 0)))]) [.raise] [],.ret (.idx (.var 0) (.var 1))]
def f21:FD:=⟨2,2,b21⟩
def b22:List S:=[.ite (.cmp .eq (.var 0) (Qs 11)) [.expr (.call 20 [(.var 2),(Qx 1 1)]),.ret (.tup [(.tup []),(.call 8 [(Qx 1 1),(Qx 1 1)])])] [],.ite (.cmp .eq (.var 0) (Qs 12)) [.ite (.cmp .ne (.call 20 [(.var 2),(Qx 1 1)]) (.glob 0)) [.raise] [],.ret (.tup [(.tup [(Qx 1 1)]),(Qx 1 1)])] [],.expr (.call 20 [(.var 2),(Qx 1 2)]),.ret (.tup [(.tup []),(.call 8 [(.tup [(Qs 7),(.tup [(Qs 6),(Qx 1 1),(Qx 1 2)]),(Qx 1 1)]),(Qx 1 2)])])]
def f22:FD:=⟨3,3,b22⟩
def b23:List S:=[.assign (.var 3) (.call 12 [(Qx 1 0),(Qx 2 0)]),.ite (.cmp .eq (.var 0) (Qs 13)) [.ret (.tup [(.call 12 [(.call 13 [(Qx 1 0),(Qx 2 1)]),(.call 13 [(Qx 2 0),(Qx 1 1)])]),(.call 8 [(Qx 1 1),(Qx 2 1)])])] [],.assign (.tup [(.var 4),(.var 5)]) (.call 10 [(Qx 1 1)]),.ite (.cmp .eq (.var 0) (Qs 14)) [.ite (.not (.call 5 [(.var 4),(Qx 2 1)])) [.raise] [],.ret (.tup [(.var 3),(.var 5)])] [],.assign (.tup [(.var 6),(.var 7)]) (.call 10 [(Qx 2 1)]),.ite (.cmp .eq (.var 0) (Qs 15)) [.ite (.not (.call 5 [(.var 5),(.var 6)])) [.raise] [],.ret (.tup [(.var 3),(.call 8 [(.var 4),(.var 7)])])] [],.ret (.tup [(.var 3),(.call 8 [(.tup [(Qs 7),(.var 4),(.var 6)]),(.tup [(Qs 7),(.var 5),(.var 7)])])])]
def f23:FD:=⟨3,8,b23⟩
def b24:List S:=[.assign (.tup [(.var 2),(.var 3)]) (.call 10 [(Qx 1 1)]),.i7 (.var 4) (Qx 1 0) [.ite (.cmp .mem (.var 0) (.call 3 [(.var 4)])) [.raise] []],.ret (.tup [(Qx 1 0),(.call 8 [(.tup [(Qs 6),(.var 0),(.var 2)]),(.tup [(Qs 6),(.var 0),(.var 3)])])])]
def f24:FD:=⟨2,5,b24⟩
def b25:List S:=[.oN 2 [],.i7 (.var 3) (Qx 1 0) [.expr (.call 14 [(.var 3),(.var 2)])],.expr (.call 14 [(Qx 1 1),(.var 2)]),.oN 4 [],.i7 (.var 5) (.var 2) [.assign (.var 6) (.call 16 [(.var 0),(.var 5)]),.ite (.cmp .mem (.var 6) (.var 4)) [.raise] [],.app 4 (.var 6)],.ret (.tup [(.call 12 [(.tup []),(.comp 4 (.call 16 [(.var 0),(.var 8)]) (.var 8) (Qx 1 0) [])]),(.call 16 [(.var 0),(Qx 1 1)])])]
def f25:FD:=⟨2,7,b25⟩
def ZV:List S:=[.oN 1 [],.wO 2,.i7 (.var 3) (.var 0) [.assign (.var 4) (Qx 3 0),.ite (.cmp .mem (.var 4) (.tup [(Qs 11),(Qs 12),(Qs 16)])) [.assign (.var 5) (.call 22 [(.var 4),(.var 3),(.var 2)])] [.ite (.cmp .mem (.var 4) (.tup [(Qs 15),(Qs 7),(Qs 14),(Qs 13)])) [.assign (.var 5) (.call 23 [(.var 4),(.call 21 [(.var 1),(Qx 3 1)]),(.call 21 [(.var 1),(Qx 3 2)])])] [.ite (.cmp .eq (.var 4) (Qs 6)) [.assign (.var 5) (.call 24 [(Qx 3 1),(.call 21 [(.var 1),(Qx 3 2)])])] [.ite (.cmp .eq (.var 4) (Qs 17)) [.assign (.var 6) (.call 21 [(.var 1),(Qx 3 2)]),.i7 (.tup [(.var 7),(.var 8)]) (Qx 3 1) [.expr (.call 20 [(.var 2),(.var 8)])],.assign (.var 5) (.tup [(.call 12 [(.tup []),(.comp 4 (.call 7 [(Qx 3 1),(.var 11)]) (.var 11) (Qx 6 0) [])]),(.call 7 [(Qx 3 1),(Qx 6 1)])])] [.ite (.cmp .eq (.var 4) (Qs 18)) [.assign (.var 5) (.call 25 [(Qx 3 1),(.call 21 [(.var 1),(Qx 3 2)])])] [.ite (.cmp .eq (.var 4) (Qs 19)) [.assign (.var 9) (.call 20 [(.var 2),(Qx 3 2)]),.ite (.or [(.cmp .eq (Qx 3 1) (Qs 5)),(.qW false (Qx 3 1) 2),(.cmp .gt (.len (.call 3 [(Qx 3 2)])) (Qi 0)),(.call 18 [(Qx 3 2)])]) [.raise] [],.u4 2 (Qx 3 1) (.var 9),.assign (.var 5) (.tup [(.tup []),(.call 8 [(.tup [(Qs 4),(Qx 3 1),(.var 9)]),(Qx 3 2)])])] [.raise]]]]]],.app 1 (.var 5)],.ret (.var 1)]
def f26:FD:=⟨1,10,ZV⟩
def Oj:List S:=[.ret (.tup [(.tup [(Qs 3),(.var 0),(.var 1)]),(.tup [(Qs 3),(.var 0),(.var 1)]),(.var 1),(.tup [(.tup [(Qs 3),(.var 0),(.var 1)])]),(.tup [])])]
def f27:FD:=⟨2,2,Oj⟩
def V1:List S:=[.ret (.tup [(.tup [(Qs 3),(.var 0),(.var 1)]),(.tup [(Qs 8),(.var 2)]),(.var 1),(.tup []),(.tup [(.tup [(Qs 3),(.var 0),(.var 1)])])])]
def f28:FD:=⟨3,3,V1⟩
def J6:List S:=[.ret (.tup [(.tup [(Qs 7),(Qx 0 0),(Qx 1 0)]),(.tup [(Qs 43),(Qx 0 1),(Qx 1 1)]),(.idx (Qx 0 2) (Qi 2)),(.bin .add (Qx 0 3) (Qx 1 3)),(.bin .add (Qx 0 4) (Qx 1 4))])]
def f29:FD:=⟨2,2,J6⟩
def Ol:List S:=[.ret (.tup [(.tup [(Qs 6),(.tup [(Qs 3),(.var 0),(.var 1)]),(Qx 2 0)]),(.tup [(Qs 44),(.var 1),(Qx 2 1)]),(.tup [(Qs 2),(.var 1),(Qx 2 2)]),(Qx 2 3),(.bin .add (.tup [(.tup [(Qs 3),(.var 0),(.var 1)])]) (Qx 2 4))])]
def f30:FD:=⟨3,3,Ol⟩
def b31:List S:=[.ret (.tup [(.tup [(Qs 7),(.tup [(Qs 7),(.tup [(Qs 4),(Qs 5),(.tup [(Qs 2),(Qx 0 2),(.tup [(Qs 2),(Qx 0 2),(.glob 1)])])]),(Qx 0 0)]),(Qx 1 0)]),(.tup [(Qs 45),(Qx 0 2),(Qx 0 1),(Qx 1 1)]),(.glob 1),(.bin .add (Qx 0 3) (Qx 1 3)),(.bin .add (Qx 0 4) (Qx 1 4))])]
def f31:FD:=⟨2,2,b31⟩
def V2:List S:=[.ret (.tup [(.call 31 [(Qx 0 0),(Qx 1 0)]),(.call 31 [(Qx 0 1),(Qx 1 1)]),(.call 31 [(Qx 0 2),(Qx 1 2)]),(.var 0),(.var 1)])]
def f32:FD:=⟨2,2,V2⟩
def V3:List S:=[.ret (.tup [(.call 29 [(Qx 0 0),(Qx 1 0)]),(.call 29 [(Qx 0 1),(Qx 1 1)]),(.call 29 [(Qx 0 2),(Qx 1 2)]),(.con .none),(.con .none)])]
def f33:FD:=⟨2,2,V3⟩
noncomputable def R8:List S:=[.ret (.call 30 [(.var 0),(.glob 1),(.call 30 [(.var 1),(.glob 1),(.call 28 [(.idx (.tup [(.var 1),(.var 0)]) (.var 2)),(.glob 1),(.var 2)])])])]
def f34:FD:=⟨3,3,R8⟩
def b35:List S:=[.assign (.var 2) (Qs 22),.tq 3 [(Qi 3)] [.ite (.and [(.cmp .mem (.tup [(Qs 3),(Qs 22),(.glob 1)]) (.var 1)),(.cmp .mem (.var 2) (.bin .add (.lst [(.var 0)]) (.comp 2 (Qx 5 1) (.var 5) (.var 1) [])))]) [.assign (.var 2) (.bin .add (.var 2) (Qs 9))] []],.ret (.var 2)]
def f35:FD:=⟨2,4,b35⟩
def b36:List S:=[.assign (.tup [(.var 4),(.var 5),(.var 6)]) (.tup [(.call 29 [(.glob 4),(.var 0)]),(.call 27 [(Qs 41),(.glob 1)]),(.call 27 [(Qs 30),(.tup [(Qs 2),(.var 3),(.glob 1)])])]),.assign (.tup [(.var 7),(.var 8)]) (.tup [(.call 35 [(Qs 42),(Qx 0 3)]),(.call 35 [(Qs 24),(Qx 1 3)])]),.assign (.var 9) (.call 30 [(.var 7),(.glob 1),(.call 29 [(.var 4),(.call 28 [(.var 7),(.glob 1),(Qi 0)])])]),.assign (.var 10) (.call 30 [(Qs 23),(.glob 1),(.call 29 [(.var 4),(.call 28 [(Qs 23),(.glob 1),(Qi 0)])])]),.assign (.var 11) (.call 30 [(.var 8),(.glob 1),(.call 31 [(.var 1),(.call 28 [(.var 8),(.glob 1),(Qi 0)])])]),.ret (.lst [(.var 2),(.var 0),(.var 1),(.call 29 [(.var 4),(.var 1)]),(.call 29 [(.var 6),(.call 27 [(Qs 41),(.var 3)])]),(.var 5),(.call 30 [(Qs 41),(.var 3),(.var 5)]),(.var 9),(.var 10),(.var 11)])]
def f36:FD:=⟨4,12,b36⟩
def b37:List S:=[.ret (.call 29 [(.call 30 [(Qs 23),(.glob 1),(.var 0)]),(.call 27 [(Qs 23),(.glob 1)])])]
def f37:FD:=⟨1,1,b37⟩
def ZW:List S:=[.newOf 3 (.var 0),.i7 (.var 4) (.var 1) [.ite (.cmp .nZ (.idx (.idx (.var 4) (.var 2)) (Qi 1)) (.comp 3 (.idx (.idx (.var 6) (.var 2)) (Qi 1)) (.var 6) (.var 3) [])) [.app 3 (.var 4)] []],.ret (.var 3)]
def f38:FD:=⟨3,5,ZW⟩
def b39:List S:=[.ret (.tup [(.l5 (.comp 3 (.idx (.idx (.var 3) (.var 1)) (Qi 0)) (.var 3) (.call 38 [(.lst []),(Qx 0 0),(.var 1)]) [])),(.idx (.idx (Qx 0 1) (.var 1)) (Qi 0))])]
def f39:FD:=⟨2,2,b39⟩
def zF:List S:=[.ite (.or [(.cmp .lt (.var 2) (Qi 0)),(.cmp .lt (.var 3) (Qi 0)),(.cmp .ge (.var 2) (.len (.var 1))),(.cmp .ge (.var 3) (.len (.var 1)))]) [.ret (.con .none)] [],.assign (.tup [(.var 4),(.var 5),(.var 6),(.var 7)]) (.tup [(.idx (.idx (.var 1) (.var 2)) (Qi 0)),(.idx (.idx (.var 1) (.var 2)) (Qi 1)),(.idx (.idx (.var 1) (.var 3)) (Qi 0)),(.idx (.idx (.var 1) (.var 3)) (Qi 1))]),.assign (.var 8) (.call 38 [(.var 4),(.var 6),(Qi 0)]),.ite (.cmp .eq (.var 0) (Qs 13)) [.ret (.tup [(.call 38 [(.comp 3 (.var 10) (.var 10) (.var 4) [(.cmp .ne (.idx (Qx 10 0) (Qi 1)) (.idx (Qx 7 0) (Qi 1)))]),(.comp 3 (.var 10) (.var 10) (.var 6) [(.cmp .ne (.idx (Qx 10 0) (Qi 1)) (.idx (Qx 5 0) (Qi 1)))]),(Qi 0)]),(.call 32 [(.var 5),(.var 7)])])] [],.ite (.cmp .is (Qx 5 3) (.con .none)) [.ret (.con .none)] [],.ite (.and [(.cmp .eq (.var 0) (Qs 14)),(.cmp .eq (.idx (.idx (Qx 5 3) (Qi 0)) (Qi 1)) (.idx (Qx 7 0) (Qi 1)))]) [.ret (.tup [(.var 8),(Qx 5 4)])] [],.ite (.or [(.cmp .eq (.var 0) (Qs 14)),(.cmp .is (Qx 7 3) (.con .none))]) [.ret (.con .none)] [],.ite (.and [(.cmp .eq (.var 0) (Qs 15)),(.cmp .eq (.idx (.idx (Qx 5 4) (Qi 0)) (Qi 1)) (.idx (.idx (Qx 7 3) (Qi 0)) (Qi 1)))]) [.ret (.tup [(.var 8),(.call 32 [(Qx 5 3),(Qx 7 4)])])] [],.ite (.and [(.cmp .eq (.var 0) (Qs 7)),(.cmp .eq (.Fs (.idx (.idx (Qx 5 3) (Qi 0)) (Qi 2)) 0 2) (.tup [(Qs 2),(.idx (.idx (Qx 7 3) (Qi 0)) (Qi 2))]))]) [.ret (.tup [(.var 8),(.call 32 [(.call 33 [(Qx 5 3),(Qx 7 3)]),(.call 33 [(Qx 5 4),(Qx 7 4)])])])] [],.ret (.con .none)]
def f40:FD:=⟨4,9,zF⟩
def V4:List S:=[.ite (.cmp .eq (.var 0) (Qs 11)) [.ret (.tup [(.lst []),(.call 32 [(.var 1),(.var 1)])])] [],.ite (.cmp .eq (.var 0) (Qs 16)) [.ret (.tup [(.lst []),(.call 32 [(.tup [(.call 37 [(Qx 1 0)]),(.call 37 [(Qx 1 1)]),(.call 37 [(Qx 1 2)]),(.con .none),(.con .none)]),(.var 1)])])] [],.ite (.cmp .eq (.idx (Qx 1 0) (Qi 2)) (.glob 1)) [.ret (.tup [(.lst [(.var 1)]),(.var 1)])] [],.ret (.con .none)]
def f41:FD:=⟨2,2,V4⟩
def Om:List S:=[.assign (.var 3) (.fY 3 (.var 7) (.var 6) (.bin .add (Qx 2 0) (.lst [(Qx 2 1)])) (.var 7) (.bin .add (.idx (Qx 6 0) (Qi 3)) (.idx (Qx 6 0) (Qi 4)))),.assign (.var 4) (.fY 3 (.var 7) (.var 6) (.bin .add (Qx 2 0) (.lst [(Qx 2 1)])) (.var 7) (.bin .add (.idx (Qx 6 2) (Qi 3)) (.idx (Qx 6 2) (Qi 4)))),.ite (.cmp .eq (.var 0) (Qs 17)) [.ret (.call 39 [(.var 2),(Qi 1)])] [],.ite (.and [(.cmp .eq (.var 0) (Qs 18)),(.cmp .eq (.j0 (.var 3)) (.j0 (.var 4)))]) [.ret (.call 39 [(.var 2),(Qi 2)])] [],.ite (.and [(.cmp .eq (.var 0) (Qs 6)),(.cmp .rT (.idx (Qx 2 1) (Qi 3)) (.con .none)),(.cmp .nZ (Qx 1 0) (.fY 3 (.var 7) (.var 6) (Qx 2 0) (.var 7) (.idx (Qx 6 0) (Qi 3))))]) [.ret (.tup [(.idx (.call 39 [(.var 2),(Qi 0)]) (Qi 0)),(.idx (.call 31 [(.call 30 [(.idx (Qx 1 0) (Qi 1)),(Qx 1 2),(.idx (.idx (Qx 2 1) (Qi 3)) (Qi 0))]),(.call 30 [(.idx (Qx 1 0) (Qi 1)),(Qx 1 2),(.idx (.idx (Qx 2 1) (Qi 4)) (Qi 0))])]) (Qi 0))])] [],.ret (.con .none)]
def f42:FD:=⟨3,5,Om⟩
noncomputable def ZX:List S:=[.yw 1 (.call 26 [(.l5 (.var 0))]),.ret (.var 1)]
def f43:FD:=⟨1,2,ZX⟩
noncomputable def XC:List S:=[.ite (.cmp .is (.var 3) (.con .none)) [.ret (.cmp .rT (.call 43 [(.bin .add (.var 0) (.lst [(.var 2)]))]) (.con .none))] [],.app 0 (.var 2),.app 1 (.var 3),.ret (.con (.bool false))]
def f44:FD:=⟨4,4,XC⟩
def iR:List S:=[.ite (.cmp .lt (.len (.var 0)) (Qi 24)) [.ret (.con (.bool true))] [],.assign (.tup [(.var 1),(.var 2),(.var 3),(.var 4)]) (.tup [(.call 27 [(Qs 42),(.glob 1)]),(.call 27 [(Qs 22),(.glob 1)]),(.call 27 [(Qs 24),(.glob 1)]),(.call 27 [(Qs 41),(.glob 2)])]),.assign (.var 5) (.lst [(.var 1),(.var 2),(.var 3),(.call 31 [(.var 2),(.var 3)]),(.call 29 [(.call 29 [(.glob 4),(.var 2)]),(.var 1)]),(.tup [(.tup [(Qs 4),(Qs 38),(.glob 1)]),(Qs 38),(.glob 1),(.tup []),(.tup [])]),(.var 4)]),.assign (.tup [(.var 6),(.var 7),(.var 8)]) (.tup [(.idx (.var 5) (.bin .mod (Qx 0 3) (Qi 7))),(.idx (.var 5) (.bin .mod (Qx 0 4) (Qi 7))),(.idx (.var 5) (.bin .mod (Qx 0 5) (Qi 4)))]),.assign (.tup [(.tup [(.var 9),(.var 10)]),(.var 11)]) (.tup [(.idx (.glob 6) (.bin .mod (Qx 0 5) (Qi 4))),(.idx (.tup [(.var 1),(.var 2),(.var 3),(.var 4)]) (.bin .mod (Qx 0 5) (Qi 4)))]),.tr 12 16 4 [(.call 36 [(.var 1),(.var 3),(.var 2),(.glob 2)]),(.call 36 [(.var 6),(.var 7),(.var 8),(.glob 2)]),(.call 36 [(.var 1),(.var 3),(.var 2),(.var 10)])] (.tup [(.var 39),(.var 40),(.var 41),(.con .none),(.con .none)]) (.tup [(.var 39),(.var 40),(.var 41)]),.assign (.var 17) (.bin .add (.bin .add (.Fs (.var 16) 0 2) (.lst [(.call 32 [(Qx 16 2),(Qx 16 0)]),(.call 32 [(Qx 16 1),(Qx 16 2)]),(Qx 16 3),(.call 32 [(Qx 16 7),(Qx 16 9)]),(.call 32 [(Qx 16 8),(Qx 16 9)])])) (.Fs (.var 16) 4 7)),.assign (.var 18) (.bin .add (.comp 2 (.idx (Qx 39 0) (Qi 0)) (.var 39) (.var 17) []) (.lst [(.idx (.glob 8) (.bin .mod (Qx 0 5) (Qi 7)))])),.assign (.var 19) (.tup [(.call 34 [(Qs 22),(Qs 23),(Qi 1)]),(.call 34 [(Qs 22),(Qs 22),(Qi 0)]),(.call 34 [(Qs 23),(Qs 22),(Qi 1)]),(.call 34 [(Qs 22),(Qs 23),(Qi 0)])]),.assign (.tup [(.var 20),(.var 21),(.var 22),(.var 23)]) (.comp 2 (.tup [(.var 39),(.var 39),(.var 39),(.con .none),(.con .none)]) (.var 39) (.tup [(.idx (.var 19) (.bin .mod (Qx 0 0) (Qi 4))),(.idx (.var 19) (.bin .mod (Qx 0 2) (Qi 4))),(.glob 4),(.glob 5)]) []),.oN 24 [(.tup [(Qs 19),(Qs 25),(.idx (Qx 20 0) (Qi 0))]),(.tup [(Qs 11),(.idx (Qx 21 0) (Qi 0))])],.oN 25 [(.tup [(.lst []),(.call 32 [(.var 22),(.var 20)])]),(.tup [(.lst []),(.call 32 [(.var 21),(.var 21)])])],.assign (.tup [(.var 26),(.var 27)]) (.tup [(.bin .mod (Qx 0 1) (Qi 11)),(.con .none)]),.ite (.cmp .lt (.var 26) (Qi 4)) [.assign (.var 27) (.tup [(.lst []),(.call 32 [(.var 23),(.var 21)])])] [],.ite (.call 44 [(.var 24),(.var 25),(.tup [(Qs 19),(.idx (Qs 46) (.var 26)),(.idx (.bin .add (.bin .mul (.lst [(.idx (Qx 21 0) (Qi 0))]) (Qi 6)) (.oA (.glob 7))) (.var 26))]),(.var 27)]) [.ret (.con (.bool false))] [],.ite (.call 44 [(.var 24),(.var 25),(.tup [(Qs 15),(Qi 0),(Qi 1)]),(.call 40 [(Qs 15),(.var 25),(Qi 0),(Qi 1)])]) [.ret (.con (.bool false))] [],.i7 (.tup [(.var 15),(.var 28)]) (.tup [(.tup [(Qx 0 7),(Qx 0 8)]),(.tup [(Qx 0 9),(Qx 0 10)]),(.tup [(Qx 0 11),(Qx 0 12)])]) [.assign (.tup [(.var 29),(.var 27)]) (.tup [(.bin .mod (.bin .add (.bin .mod (Qx 0 6) (Qi 11)) (.bin .mod (.var 28) (Qi 4))) (Qi 11)),(.con .none)]),.assign (.var 30) (.idx (.tup [(.tup [(Qs 11),(.idx (.var 18) (.var 29))]),(.tup [(Qs 12),(.idx (.var 18) (.var 29))]),(.tup [(Qs 16),(.tup [(Qs 3),(Qs 23),(.glob 1)]),(.idx (.var 18) (.var 29))]),(.tup [(Qs 12),(.idx (.var 18) (.var 29))])]) (.bin .mod (.var 15) (Qi 4))),.ite (.cmp .lt (.var 29) (Qi 10)) [.assign (.var 27) (.call 41 [(Qx 30 0),(.idx (.var 17) (.var 29))])] [],.ite (.call 44 [(.var 24),(.var 25),(.var 30),(.var 27)]) [.ret (.con (.bool false))] []],.i7 (.tup [(.var 31),(.var 13),(.var 14)]) (.tup [(.tup [(Qx 0 13),(Qx 0 14),(Qx 0 15)]),(.tup [(Qx 0 16),(Qx 0 17),(Qx 0 18)]),(.tup [(Qx 0 19),(Qx 0 20),(Qx 0 21)])]) [.assign (.var 32) (.idx (.tup [(Qs 15),(Qs 7),(Qs 14),(Qs 13),(Qs 13)]) (.bin .mod (.var 31) (Qi 5))),.assign (.tup [(.var 33),(.var 34)]) (.tup [(.bin .sub (.len (.var 25)) (.bin .mod (.var 13) (Qi 6))),(.bin .sub (.len (.var 25)) (.bin .mod (.var 14) (Qi 10)))]),.tq 28 [(.len (.var 25))] [.ite (.and [(.cmp .gt (.bin .mod (.var 14) (Qi 10)) (Qi 6)),(.cmp .rT (.call 40 [(.var 32),(.var 25),(.var 33),(.var 28)]) (.con .none))]) [.assign (.var 34) (.var 28)] []],.ite (.call 44 [(.var 24),(.var 25),(.tup [(.var 32),(.var 33),(.var 34)]),(.call 40 [(.var 32),(.var 25),(.var 33),(.var 34)])]) [.ret (.con (.bool false))] []],.assign (.tup [(.var 35),(.var 33)]) (.tup [(.idx (.tup [(Qs 17),(Qs 18),(Qs 6),(Qs 17),(Qs 18),(Qs 6),(Qs 32)]) (.bin .mod (Qx 0 22) (Qi 7))),(.bin .sub (.len (.var 25)) (.bin .mod (Qx 0 23) (Qi 6)))]),.assign (.var 30) (.tup [(.var 35),(.pick [(st 17),(st 18),(st 6),(st 32)] [(.tup [(.tup [(Qx 1 0),(Qx 6 0)]),(.tup [(Qx 3 0),(Qx 7 0)]),(.tup [(Qx 2 0),(Qx 8 0)])]),(.var 9),(Qx 11 0),(Qi 0)] (.var 35)),(.var 33)]),.assign (.var 27) (.con .none),.ite (.and [(.Ga (Qi 0) (.var 33) (.len (.var 25))),(.or [(.cmp .ne (.var 35) (Qs 17)),(.and [(.cmp .mem (.var 6) (.Fs (.var 5) 0 5)),(.cmp .mem (.var 7) (.Fs (.var 5) 0 5))])])]) [.assign (.var 27) (.call 42 [(.var 35),(.var 11),(.idx (.var 25) (.var 33))])] [],.oN 36 [],.i7 (.var 37) (.var 25) [.app 36 (.call 39 [(.var 37),(Qi 0)])],.ite (.call 44 [(.var 24),(.var 36),(.var 30),(.var 27)]) [.ret (.con (.bool false))] [],.ite (.cmp .ne (.call 43 [(.var 24)]) (.var 36)) [.ret (.con (.bool false))] [],.ret (.con (.bool true))]
def f45:FD:=⟨1,38,iR⟩
def FT:List FD:=[f0,f1,f2,f3,f4,f5,f6,f7,f8,f9,f10,f11,f12,f13,f14,f15,f16,f17,f18,f19,f20,f21,f22,f23,f24,f25,f26,f27,f28,f29,f30,f31,f32,f33,f34,f35,f36,f37,f38,f39,f40,f41,f42,f43,f44,f45]
def FN:List Str:=(["_fn","type_of","_free_into","free","_norm","alike","_put","put_in","_eq","_is_equation","_sides","_is_among","_join","_without","_vars_into","_type_put","_types_put","_type_is_open","_is_open","_check_constants","_checked","_theorem","_one_term","_two_theorems","_under","_with_types","prove","_law_var","_law_bound","_law_app","_law_lam","_law_equ","_law_meq","_law_mapp","_law_nest","_law_binder","_law_parts","_law_redex","_law_join","_law_world","_law_combine","_law_seed","_law_final","_law_try","_law_amiss","law"]:List String).map Str.ofString
inductive Bs(u:Unit:=()) where|x|y|f|g|n|p|z|eq
noncomputable def Bs.ctorIdx{u}(t:Bs u):Nat:=t.casesOn 0 1 2 3 4 5 6 7
noncomputable def Bs.i:Bs->Nat | .x=>22 | .y=>23 | .f=>30 | .g=>31 | .n=>37 | .p=>42 | .z=>41 | .eq=>5
noncomputable def Bs.c:Bs->Nat | .x=>0 | .y=>1 | .f=>2 | .g=>3 | .n=>4 | .p=>5 | .z=>6 | .eq=>7
noncomputable def Bs.V5(n:Nat):Nat:=if n=120 then 0 else if n=121 then 1 else if n=102 then 2 else if n=103 then 3 else if n=110 then 4 else if n=112 then 5 else if n=122 then 6 else 7
noncomputable def Bs.ch:Bs->Nat | .x=>120 | .y=>121 | .f=>102 | .g=>103 | .n=>110 | .p=>112 | .z=>122 | .eq=>61
noncomputable def Bs.of:Nat->Bs|0=>.x|1=>.y|2=>.f|3=>.g|4=>.n|5=>.p|6=>.z|_=>.eq
theorem Bs.LF(a:Bs):Bs.of a.c=a:=by induction a<;>rfl
inductive Cn(u:Unit:=()) where|eq|K|L|M|N
noncomputable def Cn.ctorIdx{u}(t:Cn u):Nat:=t.casesOn 0 1 2 3 4
noncomputable def Cn.i:Cn->Nat | .eq=>5 | .K=>25 | .L=>26 | .M=>38 | .N=>39
inductive Tn(u:Unit:=()) where|a|b|c
noncomputable def Tn.ctorIdx{u}(t:Tn u):Nat:=t.casesOn 0 1 2
noncomputable def Tn.i:Tn->Nat | .a=>35 | .b=>36 | .c=>33
def nm(b:Bs):Nat->Str
 |0=>st b.i
 |k+1=>nm b k++st 9
theorem V6:nm b 0=(st b.i):=rfl
theorem V7:nm b (k+1)=(nm b k++st 9):=rfl
theorem Qu(b:Bs):(st b.i).cps=#[b.ch]:=by induction b<;>decide
theorem Ic:(st 9).cps=#[39]:=by decide
theorem xw(b:Bs):∀k,(nm b k).cps=#[b.ch]++Array.replicate k 39
 |0=>by((first|rewrite[V6]|rewrite[V7]);rw[Qu]);rfl
 |k+1=>by
  show(nm b k).cps++(st 9).cps=_;rw[xw b k,Ic,Array.append_assoc];congr 1;rw[Array.replicate_succ];rfl
theorem Qv{a b:Bs}{k l:Nat}(h:nm a k=nm b l):a=b/\k=l:=by
 have h':=congrArg Str.cps h;rw[xw,xw] at h';have hk:k=l:=by have:=congrArg Array.size h';simpa using this
 subst hk;have h0:a.ch=b.ch:=by
  have h1:=congrArg Array.toList h';simp only[Array.toList_append,Array.toList_replicate,List.cons_append,List.nil_append] at h1;exact(List.cons.inj h1).1
 refine⟨?_,rfl⟩;have hc:∀x:Bs,Bs.V5 x.ch=x.c:=λ x=>by induction x<;>rfl
 have:=congrArg Bs.V5 h0
 rw[hc,hc] at this;rw[←Bs.LF a,←Bs.LF b,this]
noncomputable def Bs.same(a b:Bs):Bool:=a.c==b.c
theorem Bs.same_iff{a b:Bs}:a.same b=true↔a=b:=⟨λ h=>by rw[←Bs.LF a,←Bs.LF b,beq_iff_eq.mp h],λ h=>by rw[h];exact beq_self_eq_true b.c⟩
noncomputable def Cn.same(a b:Cn):Bool:=a.i==b.i
theorem Cn.same_iff{a b:Cn}:a.same b=true↔a=b:=⟨λ h=>by induction a<;>induction b<;>first|rfl|exact Bool.noConfusion h,λ h=>by rw[h];exact beq_self_eq_true b.i⟩
noncomputable def Tn.same(a b:Tn):Bool:=a.i==b.i
theorem Tn.same_iff{a b:Tn}:a.same b=true↔a=b:=⟨λ h=>by induction a<;>induction b<;>first|rfl|exact Bool.noConfusion h,λ h=>by rw[h];exact beq_self_eq_true b.i⟩
theorem CT(a b:Bs)(k l:Nat):(nm a k==nm b l)=(a.same b&&k==l):=by
 rw[Bool.eq_iff_iff,beq_iff_eq,dN,Bs.same_iff,beq_iff_eq];exact⟨Qv,λ h=>by rw[h.1,h.2]⟩
theorem CU(a b:Cn):(st a.i==st b.i)=a.same b:=by induction a<;>induction b<;>decide
theorem Oo(a b:Tn):(st a.i==st b.i)=a.same b:=by induction a<;>induction b<;>decide
def Ie:Bool:=(List.range 47).all λ i=>(List.range 47).all λ j=>(st i==st j)==(i==j)
theorem Qw:Ie=true:=by decide +kernel
theorem ig{i j:Nat}(hi:i<47)(hj:j<47):(st i==st j)=(i==j):=by
 have:=Qw
 simp only[Ie,fX,List.mem_range,beq_iff_eq] at this;exact this i hi j hj
set_option genInjectivity true in
inductive Ty where|bool|ind|any (n:Tn)|fn (a b:Ty)
noncomputable def Ty.ctorIdx(t:Ty):Nat:=t.casesOn 0 1 (λ _=>2) (λ _ _=>3)
set_option genInjectivity true in
inductive Tm where|var (x:Bs) (k:Nat) (t:Ty)|con (x:Cn) (t:Ty)|app (f a:Tm)|lam (x:Bs) (k:Nat) (t:Ty) (b:Tm)
noncomputable def Tm.ctorIdx(t:Tm):Nat:=t.casesOn (λ _ _ _=>0) (λ _ _=>1) (λ _ _=>2) (λ _ _ _ _=>3)
set_option genInjectivity true in
structure Vr where
 x:Bs
 k:Nat
 t:Ty
noncomputable def Ty.eq:Ty->Ty->Bool
 |.bool,t=>match t with
  |.bool=>true
  |_=>false
 |.ind,t=>match t with
  |.ind=>true
  |_=>false
 |.any a,t=>match t with
  |.any b=>a.same b
  |_=>false
 |.fn a b,t=>match t with
  |.fn c d=>a.eq c&&b.eq d
  |_=>false
theorem Zc1:Ty.eq (.bool) t=(match t with
  |.bool=>true
  |_=>false):=rfl
theorem Zc2:Ty.eq (.ind) t=(match t with
  |.ind=>true
  |_=>false):=rfl
theorem Zc3:Ty.eq (.any a) t=(match t with
  |.any b=>a.same b
  |_=>false):=rfl
theorem Zc4:Ty.eq (.fn a b) t=(match t with
  |.fn c d=>a.eq c&&b.eq d
  |_=>false):=rfl
noncomputable def Vr.eq(a b:Vr):Bool:=a.x.same b.x&&a.k==b.k&&a.t.eq b.t
noncomputable def Tm.eq:Tm->Tm->Bool
 |.var x k t,e=>match e with
  |.var y l u=>x.same y&&k==l&&t.eq u
  |_=>false
 |.con x t,e=>match e with
  |.con y u=>x.same y&&t.eq u
  |_=>false
 |.app f a,e=>match e with
  |.app g b=>f.eq g&&a.eq b
  |_=>false
 |.lam x k t a,e=>match e with
  |.lam y l u b=>x.same y&&k==l&&t.eq u&&a.eq b
  |_=>false
theorem Zc5:Tm.eq (.var x k t) e=(match e with
  |.var y l u=>x.same y&&k==l&&t.eq u
  |_=>false):=rfl
theorem Zc6:Tm.eq (.con x t) e=(match e with
  |.con y u=>x.same y&&t.eq u
  |_=>false):=rfl
theorem Zc7:Tm.eq (.app f a) e=(match e with
  |.app g b=>f.eq g&&a.eq b
  |_=>false):=rfl
theorem Zc8:Tm.eq (.lam x k t a) e=(match e with
  |.lam y l u b=>x.same y&&k==l&&t.eq u&&a.eq b
  |_=>false):=rfl
theorem Ty.eq_iff:∀{a b:Ty},a.eq b=true↔a=b:=by
 intro a;induction a with
 |bool=>intro b;induction b<;>simp[Zc1]
 |ind=>intro b;induction b<;>simp[Zc2]
 |any n=>intro b;induction b<;>simp[Zc3,Tn.same_iff]
 |fn a b gd Ez=>intro c;induction c<;>simp[Zc4,gd,Ez]
theorem Vr.eq_iff{a b:Vr}:a.eq b=true↔a=b:=by
 obtain⟨x,k,t⟩:=a;obtain⟨y,l,u⟩:=b;simp[Vr.eq,Bs.same_iff,Ty.eq_iff,and_assoc]
theorem Tm.eq_iff:∀{a b:Tm},a.eq b=true↔a=b:=by
 intro a;induction a with
 |var x k t=>intro b;induction b<;>simp[Zc5,Bs.same_iff,Ty.eq_iff,and_assoc]
 |con x t=>intro b;induction b<;>simp[Zc6,Cn.same_iff,Ty.eq_iff]
 |app f a iX gd=>intro b;induction b<;>simp[Zc7,iX,gd]
 |lam x k t a ih=>intro b;induction b<;>simp[Zc8,Bs.same_iff,Ty.eq_iff,ih,and_assoc]
def cI:Ty->PyData
 |.bool=>.tuple [.str (st 1)]
 |.ind=>.tuple [.str (st 21)]
 |.any n=>.tuple [.str (st 10),.str (st n.i)]
 |.fn a b=>.tuple [.str (st 2),cI a,cI b]
theorem EA:cI (.bool)=(.tuple [.str (st 1)]):=rfl
theorem Ig:cI (.ind)=(.tuple [.str (st 21)]):=rfl
theorem Ih:cI (.any n)=(.tuple [.str (st 10),.str (st n.i)]):=rfl
theorem EB:cI (.fn a b)=(.tuple [.str (st 2),cI a,cI b]):=rfl
def aV(v:Vr):PyData:=.tuple [.str (st 3),.str (nm v.x v.k),cI v.t]
def ay:Tm->PyData
 |.var x k t=>.tuple [.str (st 3),.str (nm x k),cI t]
 |.con x t=>.tuple [.str (st 4),.str (st x.i),cI t]
 |.app f a=>.tuple [.str (st 7),ay f,ay a]
 |.lam x k t b=>.tuple [.str (st 6),.tuple [.str (st 3),.str (nm x k),cI t],ay b]
theorem V8:ay (.var x k t)=(.tuple [.str (st 3),.str (nm x k),cI t]):=rfl
theorem V9:ay (.con x t)=(.tuple [.str (st 4),.str (st x.i),cI t]):=rfl
theorem Wa:ay (.app f a)=(.tuple [.str (st 7),ay f,ay a]):=rfl
theorem Wb:ay (.lam x k t b)=(.tuple [.str (st 6),.tuple [.str (st 3),.str (nm x k),cI t],ay b]):=rfl
theorem dZ(a b:Str):PyData.eqv (.str a) (.str b)=(a==b):=rfl
theorem eK(a b:List PyData):PyData.eqv (.tuple a) (.tuple b)=PyData.eqvAll a b:=rfl
theorem Oq(a:Str)(b:List PyData):PyData.eqv (.str a) (.tuple b)=false:=rfl
theorem wb(a:List PyData)(b:Str):PyData.eqv (.tuple a) (.str b)=false:=rfl
theorem fw:PyData.eqvAll [] []=true:=rfl
theorem di(x y:PyData)(xs ys:List PyData):PyData.eqvAll (x::xs) (y::ys)=(PyData.eqv x y&&PyData.eqvAll xs ys):=rfl
theorem oE(y:PyData)(ys:List PyData):PyData.eqvAll [] (y::ys)=false:=rfl
theorem oG(y:PyData)(ys:List PyData):PyData.eqvAll (y::ys) []=false:=rfl
theorem CV(t:Ty):∃xs,cI t=.tuple xs:=by induction t<;>exact⟨_,rfl⟩
theorem Qy(a:Str)(t:Ty):PyData.eqv (.str a) (cI t)=false:=by obtain⟨xs,h⟩:=CV t;rw[h,Oq]
theorem Qz(a:Str)(t:Ty):PyData.eqv (cI t) (.str a)=false:=by obtain⟨xs,h⟩:=CV t;rw[h,wb]
theorem iE:∀a b:Ty,PyData.eqv (cI a) (cI b)=a.eq b:=by
 intro a;induction a with
 |bool=>intro b;induction b<;>simp[EA,Ig,Ih,EB,Zc1,dZ,eK,fw,di,oE,ig]
 |ind=>intro b;induction b<;>simp[EA,Ig,Ih,EB,Zc2,dZ,eK,fw,di,oE,ig]
 |any n=>intro b;induction b<;>simp[EA,Ig,Ih,EB,Zc3,dZ,eK,Qy,fw,di,oE,oG,ig,Oo]
 |fn a b gd Ez=>intro c;induction c<;>simp[EA,Ig,Ih,EB,Zc4,dZ,eK,Qz,fw,di,oG,ig,gd,Ez]
theorem xx(a b:Vr):PyData.eqv (aV a) (aV b)=a.eq b:=by
 simp[aV,Vr.eq,dZ,eK,fw,di,CT,iE,Bool.and_assoc]
noncomputable def Ty.dp:Ty->Nat
 |.bool=>0
 |.ind=>0
 |.any _=>0
 |.fn a b=>max a.dp b.dp+1
theorem Ii:Ty.dp (.bool)=(0):=rfl
theorem Ij:Ty.dp (.ind)=(0):=rfl
theorem CW:Ty.dp (.any u1)=(0):=rfl
theorem r9:Ty.dp (.fn a b)=(max a.dp b.dp+1):=rfl
noncomputable def Tm.dp:Tm->Nat
 |.var _ _ t=>t.dp
 |.con _ t=>t.dp
 |.app f a=>max f.dp a.dp+1
 |.lam _ _ t b=>max t.dp b.dp+1
theorem lM:Tm.dp (.var u1 u2 t)=(t.dp):=rfl
theorem iK:Tm.dp (.con u1 t)=(t.dp):=rfl
theorem fx:Tm.dp (.app f a)=(max f.dp a.dp+1):=rfl
theorem fy:Tm.dp (.lam u1 u2 t b)=(max t.dp b.dp+1):=rfl
theorem dm:∀t:Ty,(cI t).depth<=t.dp+1
 |.bool=>by simp[EA,u5,wQ,vA,uW]
 |.ind=>by simp[Ig,u5,wQ,vA,uW]
 |.any n=>by simp[Ih,u5,wQ,vA,uW]
 |.fn a b=>by
  have:=dm a;have:=dm b
  simp only[EB,u5,wQ,vA,uW,r9];with_reducible exact B0 ‹_› this
theorem mZ:∀t:Tm,(ay t).depth<=t.dp+2
 |.var x k t=>by have:=dm t;simp only[V8,u5,wQ,vA,uW,lM];(apply kD;(apply cV<;>(first|exact dk|(with_reducible apply cV<;>(first|exact dk|(with_reducible apply cV<;>(first|exact this|exact dk)))))))
 |.con x t=>by have:=dm t;simp only[V9,u5,wQ,vA,uW,iK];(apply kD;(apply cV<;>(first|exact dk|(with_reducible apply cV<;>(first|exact dk|(with_reducible apply cV<;>(first|exact this|exact dk)))))))
 |.app f a=>by
  have:=mZ f;have:=mZ a
  simp only[Wa,u5,wQ,vA,uW,fx];with_reducible exact B0 ‹_› this
 |.lam x k t b=>by
  have:=dm t;have:=mZ b
  simp only[Wb,u5,wQ,vA,uW,fy];(apply kD;(apply cV<;>(first|exact dk|(with_reducible apply cV<;>(first|(with_reducible apply cV<;>(first|exact dk|exact MS this|(with_reducible apply cV<;>(first|exact dk|(with_reducible apply cV<;>(first|exact dk|(with_reducible apply cV<;>(first|exact dk|with_reducible exact MR ‹_›))))))))|(with_reducible apply kD;(first|exact dk|exact MS this|(with_reducible apply cV<;>(first|exact dk|(with_reducible apply cV<;>(first|exact dk|(with_reducible apply cV<;>(first|exact dk|with_reducible exact MR ‹_›)))))))))))))
theorem Ik{a b:Ty}(h:a.dp<=900):eS .eq (cI a) (cI b)=some (a.eq b):=by
 have:=dm a
 rw[oB,if_pos (by simp only[fj];exact .inr (aj (ao this (cv h)) rfl)),iE]
theorem wc{a b:Ty}(h:a.dp<=900):eS .ne (cI a) (cI b)=some (!(a.eq b)):=by
 have:=dm a
 rw[vB,if_pos (by simp only[fj];exact .inr (aj (ao this (cv h)) rfl)),iE]
section
variable {G:List PyData} {C:aG} {fr:agq} {σ:ae}
noncomputable def k1(k:V->ae->Res V)(r:Res V):Res V:=r.bind k
noncomputable def k2(g:ae->Res V)(k:V->V->ae->Res V)(r:Res V):Res V:=r.bind λ a σ=>(g σ).bind (k a)
theorem zG(a:V)(σ:ae)(k:V->ae->Res V):k1 k (.ok a σ)=k a σ:=rfl
theorem Wc(a:V)(σ:ae)(g:ae->Res V)(k:V->V->ae->Res V):k2 g k (.ok a σ)=k1 (k a) (g σ):=rfl
def oq(f:PyData->PyData->Option PyData)(a b:V)(σ:ae):Res V:=(Res.of σ (aE σ a)).bind λ x σ=>(Res.of σ (aE σ b)).bind λ y σ=>(Res.of σ (f x y)).bind λ r σ=>.ok (.d r) σ
def ou(f:PyData->Option PyData)(a:V)(σ:ae):Res V:=(Res.of σ (aE σ a)).bind λ x σ=>(Res.of σ (f x)).bind λ r σ=>.ok (.d r) σ
def Bq(σ:ae)(o:Option PyData):Res V:=(Res.of σ o).bind λ r σ=>.ok (.d r) σ
section
variable {n:Nat}{xs:List PyData}{σ:ae}
theorem uk(σ:ae)(x:PyData):Bq σ (some x)=.ok (.d x) σ:=rfl
theorem Ot(f:PyData->PyData->Option PyData)(a b:PyData)(σ:ae):oq f (.d a) (.d b) σ=Bq σ (f a b):=rfl
theorem LG(f:PyData->Option PyData)(a:PyData)(σ:ae):ou f (.d a) σ=Bq σ (f a):=rfl
theorem QA(h:σ[n]?=some (.lst xs)):aE σ (.loc n)=some (.list xs):=by unfold aE;dsimp only;rw[h]
theorem Br(f:PyData->Option PyData)(h:σ[n]?=some (.lst xs)):ou f (.loc n) σ=Bq σ (f (.list xs)):=by unfold ou;rw[QA h];rfl
theorem zH(f:PyData->PyData->Option PyData)(a:PyData)(h:σ[n]?=some (.lst xs)):oq f (.d a) (.loc n) σ=Bq σ (f a (.list xs)):=by
 show(Res.of σ (aE σ (.loc n))).bind _=_;rw[QA h];rfl
theorem We(f:PyData->PyData->Option PyData)(a:PyData)(h:σ[n]?=some (.lst xs)):oq f (.loc n) (.d a) σ=Bq σ (f (.list xs) a):=by unfold oq;rw[QA h];rfl
def d0(op:Cm)(x y:PyData):Option PyData:=(eS op x y).map .bool
theorem Ou(x:PyData):evE G C (.con x) fr σ=.ok (.d x) σ:=rfl
end
noncomputable def QB(σ:ae)(o:Option (Option V)):Res V:=match o with|some (some v)=>.ok v σ|_=>.stuck
theorem cH(v:V)(σ:ae):QB σ (some (some v))=.ok v σ:=rfl
theorem iL(i:Nat):evE G C (.var i) fr σ=QB σ fr[i]?:=rfl
noncomputable def ahv(σ:ae)(o:Option PyData):Res V:=match o with|some x=>.ok (.d x) σ|none=>.stuck
theorem Wf(a i:E):evE G C (.idx a i) fr σ=k2 (evE G C i fr) (oq dD) (evE G C a fr σ):=rfl
theorem Wg(a:E):evE G C (.len a) fr σ=k1 (ou gr) (evE G C a fr σ):=rfl
def Wh(v:V)(σ:ae):Res V:=(Res.of σ (aP v)).bind λ b σ=>.ok (.d (.bool (!b))) σ
noncomputable def Wi(v:V)(σ:ae):Res V:=match v with|.d (.int i)=>.ok (.d (.int (-i))) σ|_=>.stuck
noncomputable def ks(k:List V->ae->Res V)(r:Res (List V)):Res V:=r.bind k
noncomputable def kc(g:ae->Res (List V))(r:Res V):Res (List V):=r.bind λ v σ=>(g σ).bind λ vs σ=>.ok (v::vs) σ
def ahx(vs:List V)(σ:ae):Res V:=(Res.of σ (fQ vs)).bind λ ds σ=>.ok (.d (.tuple ds)) σ
def ahy(vs:List V)(σ:ae):Res V:=(Res.of σ (fQ vs)).bind λ ds σ=>.ok (.d (.list ds)) σ
def ka(g:ae->Res V)(r:Res V):Res V:=r.bind λ v σ=>(Res.of σ (aP v)).bind λ b σ=>if b then g σ else .ok (.d (.bool false)) σ
def ko(g:ae->Res V)(r:Res V):Res V:=r.bind λ v σ=>(Res.of σ (aP v)).bind λ b σ=>if b then .ok (.d (.bool true)) σ else g σ
theorem QC(x:E)(xs:List E):dg G C (x::xs) fr σ=ka (dg G C xs fr) (evE G C x fr σ):=rfl
theorem Il(x:E)(xs:List E):i9 G C (x::xs) fr σ=ko (i9 G C xs fr) (evE G C x fr σ):=rfl
noncomputable def kt(k:V->ae->XR)(r:Res V):XR:=r.then k
theorem Wj(v:V)(σ:ae)(k:V->ae->XR):kt k (.ok v σ)=k v σ:=rfl
def QD(t:Tg)(fr:agq)(v:V)(σ:ae):XR:=(Res.of σ (asg σ t v fr)).then λ aR σ=>.next aR σ
theorem LH(i:Nat)(v:V)(fr:agq)(h:i<fr.length):asg σ (.var i) v fr=some (fr.set i (some v)):=by((first|rewrite[Gh]|rewrite[Yc]);rw[gu,if_pos h])
def ZY(A B:ae->XR)(v:V)(σ:ae):XR:=(Res.of σ (aP v)).then λ t σ=>if t then A σ else B σ
theorem QE:aD G C [] fr σ=.next fr σ:=rfl
theorem CX(s:S)(r:List S):aD G C (s::r) fr σ=(exS G C s fr σ).andThen (aD G C r):=rfl
theorem gZ(k:agq->ae->XR):(XR.next fr σ).andThen k=k fr σ:=rfl
def kA(k:agq->ae->XR)(t:Tg)(fr:agq)(r:Res V):XR:=(kt (QD t fr) r).andThen k
def kI(k:agq->ae->XR)(A B:ae->XR)(r:Res V):XR:=(kt (ZY A B) r).andThen k
theorem ZZ(k:agq->ae->XR)(A B:ae->XR)(σ:ae):kI k A B (.ok (.d (.bool true)) σ)=(A σ).andThen k:=rfl
theorem Z0(k:agq->ae->XR)(A B:ae->XR)(σ:ae):kI k A B (.ok (.d (.bool false)) σ)=(B σ).andThen k:=rfl
theorem Im(c:E)(a b:List S)(r:List S):aD G C (.ite c a b::r) fr σ=kI (aD G C r) (aD G C a fr) (aD G C b fr) (evE G C c fr σ):=rfl
def Ov(i:Nat)(fr:agq)(vs:List V)(σ:ae):XR:=(Res.of σ (fQ vs)).then λ ds σ=>if i<fr.length then .next (fr.set i (some (.loc σ.length))) (σ++[.lst ds]) else .stuck
def mh(body:agq->ae->XR)(t:Tg)(fr:agq)(v:V)(σ:ae):XR:=match v with
   |.d x=>(Res.of σ (agt x)).then λ items σ=>bl body t items fr σ
   |.loc n=>(Res.of σ (match σ[n]? with|some (.lst xs)=>some xs.length|_=>none)).then λ k σ=>fR body t n (k+1) 0 fr σ
theorem wd(body:agq->ae->XR)(t:Tg)(xs:List PyData):mh body t fr (.d (.list xs)) σ=bl body t xs fr σ:=rfl
theorem lN(body:agq->ae->XR)(t:Tg)(xs:List PyData):mh body t fr (.d (.tuple xs)) σ=bl body t xs fr σ:=rfl
noncomputable def Wk(body:agq->ae->XR)(σ:ae)(k:agq->ae->XR):Option agq->XR
 |some fr=>(body fr σ).andThen k
 |none=>.stuck
theorem nK(body:agq->ae->XR)(σ:ae)(k:agq->ae->XR)(fr:agq):Wk body σ k (some fr)=(body fr σ).andThen k:=rfl
theorem sU(body:agq->ae->XR)(t:Tg)(x:PyData)(xs:List PyData):bl body t (x::xs) fr σ=Wk body σ (bl body t xs) (asg σ t (.d x) fr):=rfl
end
theorem ah(σ:ae):σ.take σ.length=σ:=List.take_length
theorem CY(n:Nat)(x:PyData)(σ:ae):agO n (.ret (.d x) σ)=.ok (.d x) (σ.take n):=rfl
theorem cN(op:Cm)(x y:PyData){b:Bool}(h:eS op x y=some b):d0 op x y=some (.bool b):=by unfold d0;rw[h];rfl
theorem Io(a b:Str):d0 .eq (.str a) (.str b)=some (.bool (a==b)):=rfl
theorem q1:(st 1==st 1)=true:=rfl
theorem q2:(st 2==st 2)=true:=rfl
theorem q3:(st 3==st 3)=true:=rfl
theorem q4:(st 4==st 4)=true:=rfl
theorem q5:(st 5==st 5)=true:=rfl
inductive An where
 |r (x:Res V)
 |o (x:PyData)
 |x (r:XR)
 |w (x:Res V)
noncomputable def An.ctorIdx(t:An):Nat:=t.casesOn (λ _=>0) (λ _=>1) (λ _=>2) (λ _=>3)
noncomputable def Wl:E->Bool
 |.con _=>true
 |_=>false
def Z1:E->Bool
 |.con (.str _)=>true
 |.con .none=>true
 |.tup xs=>xs.all Wl
 |_=>false
noncomputable def Z2:E->Bool
 |.con _=>true
 |_=>false
def LI(b:Bool)(f:PyData->PyData->Option PyData)(va vb:V)(σ:ae)(as:List An)(k:Res V->List An->Prop):Prop:=match b with
 |true=>k (oq f va vb σ) as
 |false=>match as with
  |.r a::as=>(oq f va vb σ=a->k a as)
  |.o a::as=>(match va with
   |.d x=>(match vb with
    |.d y=>(f x y=some a->k (.ok (.d a) σ) as)
    |.loc _=>k (oq f va vb σ) as)
   |.loc _=>k (oq f va vb σ) as)
  |as=>k (oq f va vb σ) as
def EC(f:PyData->Option PyData)(va:V)(σ:ae)(as:List An)(k:Res V->List An->Prop):Prop:=match as with
  |.r a::as=>(ou f va σ=a->k a as)
  |.o a::as=>(match va with
   |.d x=>(f x=some a->k (.ok (.d a) σ) as)
   |.loc _=>k (ou f va σ) as)
  |as=>k (ou f va σ) as
def QF(r:Res V)(as:List An)(k:Res V->List An->Prop):Prop:=match as with
  |.r a::as=>(r=a->k a as)
  |as=>k r as
def Ip(r:XR)(as:List An)(k:XR->List An->Prop):Prop:=match as with
  |.x a::as=>(r=a->k a as)
  |as=>k r as
def QG(r:Res V)(as:List An)(k:Res V->List An->Prop)(p:Prop):Prop:=match as with
  |.w a::as=>(r=a->k a as)
  |_=>p
def sa{α:Type}{β:Type}(r:Res α)(as:List An)(e:Res β->List An->Prop)(k:α->ae->List An->Prop):Prop:=match r with
 |.ok a σ=>k a σ as
 |.err σ=>e (.err σ) as
 |.stuck=>e .stuck as
def J7{α:Type}(r:Res α)(as:List An)(e:XR->List An->Prop)(k:α->ae->List An->Prop):Prop:=match r with
 |.ok a σ=>k a σ as
 |.err σ=>e (.err σ) as
 |.stuck=>e .stuck as
mutual
def qU(G:List PyData)(C:aG):E->agq->ae->List An->(Res V->List An->Prop)->Prop
 |.con x,_,σ,as,k=>k (.ok (.d x) σ) as
 |.var i,fr,σ,as,k=>k (QB σ fr[i]?) as
 |.glob g,_,σ,as,k=>k (ahv σ G[g]?) as
 |.tup xs,fr,σ,as,k=>xy G C xs fr σ as λ r as=>sa r as k λ vs σ as=>k (ahx vs σ) as
 |.lst xs,fr,σ,as,k=>xy G C xs fr σ as λ r as=>sa r as k λ vs σ as=>k (ahy vs σ) as
 |.idx a i,fr,σ,as,k=>qU G C a fr σ as λ r as=>sa r as k λ va σ as=>qU G C i fr σ as λ r as=>sa r as k λ vi σ as=>LI (Z2 i) dD va vi σ as k
 |.cmp op a b,fr,σ,as,k=>qU G C a fr σ as λ r as=>sa r as k λ va σ as=>qU G C b fr σ as λ r as=>sa r as k λ vb σ as=>LI (Z1 b) (d0 op) va vb σ as k
 |.bin op a b,fr,σ,as,k=>qU G C a fr σ as λ r as=>sa r as k λ va σ as=>qU G C b fr σ as λ r as=>sa r as k λ vb σ as=>LI false (agK op) va vb σ as k
 |.not a,fr,σ,as,k=>qU G C a fr σ as λ r as=>sa r as k λ v σ as=>k (Wh v σ) as
 |.neg a,fr,σ,as,k=>qU G C a fr σ as λ r as=>sa r as k λ v σ as=>k (Wi v σ) as
 |.call f xs,fr,σ,as,k=>xy G C xs fr σ as λ r as=>sa r as k λ vs σ as=>QF (C f vs σ) as k
 |.len a,fr,σ,as,k=>qU G C a fr σ as λ r as=>sa r as k λ v σ as=>EC gr v σ as k
 |.l5 a,fr,σ,as,k=>qU G C a fr σ as λ r as=>sa r as k λ v σ as=>EC gX v σ as k
 |.oA a,fr,σ,as,k=>qU G C a fr σ as λ r as=>sa r as k λ v σ as=>EC jJ v σ as k
 |.Fs a lo hi,fr,σ,as,k=>qU G C a fr σ as λ r as=>sa r as k λ v σ as=>EC (pR lo hi) v σ as k
 |.j0 a,fr,σ,as,k=>qU G C a fr σ as λ r as=>sa r as k λ v σ as=>EC ahb v σ as k
 |.pick ks vs q,fr,σ,as,k=>xy G C vs fr σ as λ r as=>sa r as k λ vs σ as=>sa (Res.of σ (fQ vs)) as k λ ds σ as=>qU G C q fr σ as λ r as=>sa r as k λ v σ as=>k (ou (oO (ks.zip ds)) v σ) as
 |.and xs,fr,σ,as,k=>QG (evE G C (.and xs) fr σ) as k (QH G C xs fr σ as k)
 |.or xs,fr,σ,as,k=>QG (evE G C (.or xs) fr σ) as k (QI G C xs fr σ as k)
 |e,fr,σ,as,k=>QF (evE G C e fr σ) as k
def xy(G:List PyData)(C:aG):List E->agq->ae->List An->(Res (List V)->List An->Prop)->Prop
 |[],_,σ,as,k=>k (.ok [] σ) as
 |x::xs,fr,σ,as,k=>qU G C x fr σ as λ r as=>sa r as k λ v σ as=>xy G C xs fr σ as λ r as=>sa r as k λ vs σ as=>k (.ok (v::vs) σ) as
def QH(G:List PyData)(C:aG):List E->agq->ae->List An->(Res V->List An->Prop)->Prop
 |[],_,σ,as,k=>k (.ok (.d (.bool true)) σ) as
 |x::xs,fr,σ,as,k=>qU G C x fr σ as λ r as=>sa r as k λ v σ as=>sa (Res.of σ (aP v)) as k λ b σ as=>match b with
  |true=>QH G C xs fr σ as k
  |false=>k (.ok (.d (.bool false)) σ) as
def QI(G:List PyData)(C:aG):List E->agq->ae->List An->(Res V->List An->Prop)->Prop
 |[],_,σ,as,k=>k (.ok (.d (.bool false)) σ) as
 |x::xs,fr,σ,as,k=>qU G C x fr σ as λ r as=>sa r as k λ v σ as=>sa (Res.of σ (aP v)) as k λ b σ as=>match b with
  |true=>k (.ok (.d (.bool true)) σ) as
  |false=>QI G C xs fr σ as k
end
section
variable {f:PyData->PyData->Option PyData}{va vb:V}{σ:ae}{k:Res V->List An->Prop}{r:Res V}
theorem o4{b:Bool}{as:List An}(h:∀as,k (oq f va vb σ) as):LI b f va vb σ as k:=by
 induction b with
 |true=>exact h as
 |false=>
  induction as with
  |nil=>exact h _
  |cons a as=>
   induction a with
   |r x=>exact λ e=>e▸h as
   |o x=>
    induction va with
    |d y=>
     induction vb with
     |d z=>intro e;have:=h as;rw[Ot,e] at this;exact this
     |loc n=>exact h _
    |loc n=>exact h _
   |_=>exact h _
theorem jw{f:PyData->Option PyData}{as:List An}(h:∀as,k (ou f va σ) as):EC f va σ as k:=by
 induction as with
 |nil=>exact h _
 |cons a as=>
  induction a with
  |r x=>exact λ e=>e▸h as
  |o x=>
   induction va with
   |d y=>intro e;have:=h as;rw[LG,e] at this;exact this
   |loc n=>exact h _
  |_=>exact h _
theorem gQ{as:List An}(h:∀as,k r as):QF r as k:=by
 induction as with
 |nil=>exact h _
 |cons a as=>
  induction a with
  |r x=>exact λ e=>e▸h as
  |_=>exact h _
theorem um{as:List An}{p:Prop}(h:∀as,k r as)(hp:p):QG r as k p:=by
 induction as with
 |nil=>exact hp
 |cons a as=>
  induction a with
  |w x=>exact λ e=>e▸h as
  |_=>exact hp
end
section
variable {e k:XR->List An->Prop}{α β:Type}
theorem fA{r:XR}{as:List An}(h:∀as,k r as):Ip r as k:=by
 induction as with
 |nil=>exact h _
 |cons a as=>
  induction a with
  |x x=>exact λ e=>e▸h as
  |_=>exact h _
theorem aU{r:Res α}{as:List An}{e:Res β->List An->Prop}{k:α->ae->List An->Prop}{f:α->ae->Res β}(h:∀as,e (r.bind f) as)(g:∀a σ,(∀as,e (f a σ) as)->∀as,k a σ as):sa r as e k:=by
 induction r with
 |ok a σ=>exact g a σ h as
 |err σ=>exact h as
 |stuck=>exact h as
theorem fF{r:Res α}{as:List An}{k:α->ae->List An->Prop}{f:α->ae->XR}(h:∀as,e (r.then f) as)(g:∀a σ,(∀as,e (f a σ) as)->∀as,k a σ as):J7 r as e k:=by
 induction r with
 |ok a σ=>exact g a σ h as
 |err σ=>exact h as
 |stuck=>exact h as
end
mutual
theorem dw(G:List PyData)(C:aG):∀(e:E) (fr:agq) (σ:ae) (as:List An) (k:Res V->List An->Prop),(∀as,k (evE G C e fr σ) as)->qU G C e fr σ as k
 |.con x,fr,σ,as,k,h=>h as
 |.var i,fr,σ,as,k,h=>h as
 |.glob g,fr,σ,as,k,h=>h as
 |.tup xs,fr,σ,as,k,h=>jR G C xs fr σ as _ λ as=>aU (f:=ahx) h λ vs σ h as=>h as
 |.lst xs,fr,σ,as,k,h=>jR G C xs fr σ as _ λ as=>aU (f:=ahy) h λ vs σ h as=>h as
 |.idx a i,fr,σ,as,k,h=>dw G C a fr σ as _ λ as=>aU (f:=λ va σ=>(evE G C i fr σ).bind (oq dD va)) h λ va σ h as=>dw G C i fr σ as _ λ as=>aU (f:=oq dD va) h λ vi σ h as=>o4 h
 |.cmp op a b,fr,σ,as,k,h=>dw G C a fr σ as _ λ as=>aU (f:=λ va σ=>(evE G C b fr σ).bind (oq (d0 op) va)) h λ va σ h as=>dw G C b fr σ as _ λ as=>aU (f:=oq (d0 op) va) h λ vi σ h as=>o4 h
 |.bin op a b,fr,σ,as,k,h=>dw G C a fr σ as _ λ as=>aU (f:=λ va σ=>(evE G C b fr σ).bind (oq (agK op) va)) h λ va σ h as=>dw G C b fr σ as _ λ as=>aU (f:=oq (agK op) va) h λ vi σ h as=>o4 h
 |.not a,fr,σ,as,k,h=>dw G C a fr σ as _ λ as=>aU (f:=Wh) h λ v σ h as=>h as
 |.neg a,fr,σ,as,k,h=>dw G C a fr σ as _ λ as=>aU (f:=Wi) h λ v σ h as=>h as
 |.call f xs,fr,σ,as,k,h=>jR G C xs fr σ as _ λ as=>aU (f:=C f) h λ vs σ h as=>gQ h
 |.len a,fr,σ,as,k,h=>dw G C a fr σ as _ λ as=>aU (f:=ou gr) h λ v σ h as=>jw h
 |.l5 a,fr,σ,as,k,h=>dw G C a fr σ as _ λ as=>aU (f:=ou gX) h λ v σ h as=>jw h
 |.oA a,fr,σ,as,k,h=>dw G C a fr σ as _ λ as=>aU (f:=ou jJ) h λ v σ h as=>jw h
 |.Fs a lo hi,fr,σ,as,k,h=>dw G C a fr σ as _ λ as=>aU (f:=ou (pR lo hi)) h λ v σ h as=>jw h
 |.j0 a,fr,σ,as,k,h=>dw G C a fr σ as _ λ as=>aU (f:=ou ahb) h λ v σ h as=>jw h
 |.pick ks vs q,fr,σ,as,k,h=>jR G C vs fr σ as _ λ as=>aU (f:=λ vs σ=>(Res.of σ (fQ vs)).bind λ ds σ=>(evE G C q fr σ).bind λ vk σ=>ou (oO (ks.zip ds)) vk σ) h λ vs σ h as=>
   aU (f:=λ ds σ=>(evE G C q fr σ).bind λ vk σ=>ou (oO (ks.zip ds)) vk σ) h λ ds σ h as=>dw G C q fr σ as _ λ as=>aU (f:=λ vk σ=>ou (oO (ks.zip ds)) vk σ) h λ v σ h as=>h as
 |.and xs,fr,σ,as,k,h=>um h (CZ G C xs fr σ as k h)
 |.or xs,fr,σ,as,k,h=>um h (C0 G C xs fr σ as k h)
 |.Ga a b c,fr,σ,as,k,h=>gQ h
 |.qW ng a i,fr,σ,as,k,h=>gQ h
 |.u0 i a,fr,σ,as,k,h=>gQ h
 |.comp n elt t it ifs,fr,σ,as,k,h=>gQ h
 |.fY n elt t1 qQ t2 it2,fr,σ,as,k,h=>gQ h
theorem jR(G:List PyData)(C:aG):∀(e:List E) (fr:agq) (σ:ae) (as:List An) (k:Res (List V)->List An->Prop),(∀as,k (fL G C e fr σ) as)->xy G C e fr σ as k
 |[],fr,σ,as,k,h=>h as
 |x::xs,fr,σ,as,k,h=>dw G C x fr σ as _ λ as=>aU (f:=λ v σ=>(fL G C xs fr σ).bind λ vs σ=>.ok (v::vs) σ) h λ v σ h as=>jR G C xs fr σ as _ λ as=>aU (f:=λ vs σ=>.ok (v::vs) σ) h λ vs σ h as=>h as
theorem CZ(G:List PyData)(C:aG):∀(e:List E) (fr:agq) (σ:ae) (as:List An) (k:Res V->List An->Prop),(∀as,k (dg G C e fr σ) as)->QH G C e fr σ as k
 |[],fr,σ,as,k,h=>h as
 |x::xs,fr,σ,as,k,h=>dw G C x fr σ as _ λ as=>aU (f:=λ v σ=>(Res.of σ (aP v)).bind λ(b:Bool) σ=>if b=true then dg G C xs fr σ else .ok (.d (.bool false)) σ) h λ v σ h as=>aU (f:=λ(b:Bool) σ=>if b=true then dg G C xs fr σ else .ok (.d (.bool false)) σ) h λ b σ h as=>by
   induction b with
   |true=>exact CZ G C xs fr σ as k h
   |false=>exact h as
theorem C0(G:List PyData)(C:aG):∀(e:List E) (fr:agq) (σ:ae) (as:List An) (k:Res V->List An->Prop),(∀as,k (i9 G C e fr σ) as)->QI G C e fr σ as k
 |[],fr,σ,as,k,h=>h as
 |x::xs,fr,σ,as,k,h=>dw G C x fr σ as _ λ as=>aU (f:=λ v σ=>(Res.of σ (aP v)).bind λ(b:Bool) σ=>if b=true then .ok (.d (.bool true)) σ else i9 G C xs fr σ) h λ v σ h as=>aU (f:=λ(b:Bool) σ=>if b=true then .ok (.d (.bool true)) σ else i9 G C xs fr σ) h λ b σ h as=>by
   induction b with
   |true=>exact h as
   |false=>exact C0 G C xs fr σ as k h
end
def Z4(i:Nat)(fr:agq)(r:Res V):XR:=if i<fr.length then(match r with
   |.ok v σ=>.next (fr.set i (some v)) σ
   |.err σ=>.next (fr.set i (Dv .none)) σ
   |.stuck=>.stuck) else .stuck
def zI(body:agq->ae->XR)(i:Nat)(fr:agq)(vs:List V)(σ:ae):XR:=(Res.of σ ((fQ vs).bind iO)).then λ items σ=>bl body (.var i) items fr σ
def QJ(G:List PyData)(C:aG)(iw ip n:Nat)(elt:E)(t:Tg)(fr:agq)(vs:List V)(σ:ae):XR:=(Res.of σ ((fQ vs).bind three)).then λ qR σ=>
   if(agF elt=true/\iw<fr.length/\ip<fr.length)/\qR.1.length=qR.2.1.length/\qR.1.length=qR.2.2.length/\qR.1.length<=1000 then
    (aA (λ y σ=>(Res.of σ (asg σ t (.d y) (fr.set iw none++List.replicate n none))).bind λ aR σ=>(evE G C elt aR σ).bind λ r σ=>match r with
       |.d z=>.ok (some z) σ
       |.loc _=>.stuck) (pT qR.1 qR.2.1 qR.2.2) σ).then λ ys σ=>.next ((fr.set iw none).set ip (Dv (.list ys))) σ
   else .stuck
mutual
def exI(G:List PyData)(C:aG):S->agq->ae->List An->(XR->List An->Prop)->Prop
 |.assign t e,fr,σ,as,k=>qU G C e fr σ as λ r as=>J7 r as k λ v σ as=>k (QD t fr v σ) as
 |.expr e,fr,σ,as,k=>qU G C e fr σ as λ r as=>J7 r as k λ _ σ as=>k (.next fr σ) as
 |.ret e,fr,σ,as,k=>qU G C e fr σ as λ r as=>J7 r as k λ v σ as=>k (.ret v σ) as
 |.raise,_,σ,as,k=>k (.err σ) as
 |.ite c a b,fr,σ,as,k=>qU G C c fr σ as λ r as=>J7 r as k λ v σ as=>J7 (Res.of σ (aP v)) as k λ b' σ as=>match b' with
  |true=>vq G C a fr σ as k
  |false=>vq G C b fr σ as k
 |.i7 t e b,fr,σ,as,k=>qU G C e fr σ as λ r as=>J7 r as k λ v σ as=>Ip (mh (aD G C b) t fr v σ) as k
 |.oN i xs,fr,σ,as,k=>xy G C xs fr σ as λ r as=>J7 r as k λ vs σ as=>k (Ov i fr vs σ) as
 |.yw i e,fr,σ,as,k=>qU G C e fr σ as λ r as=>k (Z4 i fr r) as
 |.tq i xs b,fr,σ,as,k=>xy G C xs fr σ as λ r as=>J7 r as k λ vs σ as=>Ip (zI (aD G C b) i fr vs σ) as k
 |.tr iw ip n xs elt t,fr,σ,as,k=>xy G C xs fr σ as λ r as=>J7 r as k λ vs σ as=>Ip (QJ G C iw ip n elt t fr vs σ) as k
 |s,fr,σ,as,k=>Ip (exS G C s fr σ) as k
def vq(G:List PyData)(C:aG):List S->agq->ae->List An->(XR->List An->Prop)->Prop
 |[],fr,σ,as,k=>k (.next fr σ) as
 |s::r,fr,σ,as,k=>exI G C s fr σ as λ x as=>match x with
  |.next fr σ=>vq G C r fr σ as k
  |.ret v σ=>k (.ret v σ) as
  |.err σ=>k (.err σ) as
  |.stuck=>k .stuck as
end
mutual
theorem QK(G:List PyData)(C:aG):∀(s:S) (fr:agq) (σ:ae) (as:List An) (k:XR->List An->Prop),(∀as,k (exS G C s fr σ) as)->exI G C s fr σ as k
 |.assign t e,fr,σ,as,k,h=>dw G C e fr σ as _ λ as=>fF (f:=QD t fr) h λ v σ h as=>h as
 |.expr e,fr,σ,as,k,h=>dw G C e fr σ as _ λ as=>fF (f:=λ _ σ=>.next fr σ) h λ v σ h as=>h as
 |.ret e,fr,σ,as,k,h=>dw G C e fr σ as _ λ as=>fF (f:=λ v σ=>.ret v σ) h λ v σ h as=>h as
 |.raise,fr,σ,as,k,h=>h as
 |.ite c a b,fr,σ,as,k,h=>dw G C c fr σ as _ λ as=>fF (f:=λ v σ=>(Res.of σ (aP v)).then λ(t:Bool) σ=>if t=true then aD G C a fr σ else aD G C b fr σ) h λ v σ h as=>fF (f:=λ(t:Bool) σ=>if t=true then aD G C a fr σ else aD G C b fr σ) h λ t σ h as=>by
   induction t with
   |true=>exact qp G C a fr σ as k h
   |false=>exact qp G C b fr σ as k h
 |.i7 t e b,fr,σ,as,k,h=>dw G C e fr σ as _ λ as=>fF (f:=mh (aD G C b) t fr) h λ v σ h as=>fA h
 |.oN i xs,fr,σ,as,k,h=>jR G C xs fr σ as _ λ as=>fF (f:=Ov i fr) h λ v σ h as=>h as
 |.newOf i a,fr,σ,as,k,h=>fA h
 |.wO i,fr,σ,as,k,h=>fA h
 |.u4 i a b,fr,σ,as,k,h=>fA h
 |.app i e,fr,σ,as,k,h=>fA h
 |.yv c b,fr,σ,as,k,h=>fA h
 |.tq i a b,fr,σ,as,k,h=>jR G C a fr σ as _ λ as=>fF (f:=zI (aD G C b) i fr) h λ v σ h as=>fA h
 |.yw i e,fr,σ,as,k,h=>dw G C e fr σ as _ λ as=>h as
 |.tr iw ip n xs elt t,fr,σ,as,k,h=>jR G C xs fr σ as _ λ as=>fF (f:=QJ G C iw ip n elt t fr) h λ v σ h as=>fA h
theorem qp(G:List PyData)(C:aG):∀(s:List S) (fr:agq) (σ:ae) (as:List An) (k:XR->List An->Prop),(∀as,k (aD G C s fr σ) as)->vq G C s fr σ as k
 |[],fr,σ,as,k,h=>h as
 |s::r,fr,σ,as,k,h=>QK G C s fr σ as _ λ as=>by
   haveI h:∀as,k ((exS G C s fr σ).andThen (aD G C r)) as:=h;cases hs:exS G C s fr σ with
   |next fr σ=>rw[hs] at h;exact qp G C r fr σ as k h
   |ret v σ=>rw[hs] at h;exact h as
   |err σ=>rw[hs] at h;exact h as
   |stuck=>rw[hs] at h;exact h as
end
section
variable {σ:ae}{C:aG}{e:List S}{fr:agq}{R a1 a2 a3 a4:Res V}{P1 P2 P3 P4:Prop}
theorem run(G:List PyData)(C:aG)(b:List S)(fr:agq)(σ:ae)(as:List An):vq G C b fr σ as λ r _=>aD G C b fr σ=r:=
 qp G C b fr σ as _ λ _=>rfl
theorem gR(G:List PyData)(C:aG)(e:E)(fr:agq)(σ:ae)(as:List An):qU G C e fr σ as λ r _=>evE G C e fr σ=r:=dw G C e fr σ as _ λ _=>rfl
theorem jS{r:XR}{d:PyData}(h:r=.ret (.d d) σ):agO σ.length r=.ok (.d d) σ:=by simp only[h,CY,ah]
theorem g1{R:XR}(h1:P1)(q:vq G C e fr σ [.r a1] (λ r _=>aD G C e fr σ=r)=(P1->aD G C e fr σ=R)):aD G C e fr σ=R:=Eq.mp q (run G C e fr σ [.r a1]) h1
theorem g2{R:XR}(h1:P1)(h2:P2)(q:vq G C e fr σ [.r a1,.r a2] (λ r _=>aD G C e fr σ=r)=(P1->P2->aD G C e fr σ=R)):aD G C e fr σ=R:=Eq.mp q (run G C e fr σ [.r a1,.r a2]) h1 h2
theorem g3{R:XR}(h1:P1)(h2:P2)(h3:P3)(q:vq G C e fr σ [.r a1,.r a2,.r a3] (λ r _=>aD G C e fr σ=r)=(P1->P2->P3->aD G C e fr σ=R)):aD G C e fr σ=R:=Eq.mp q (run G C e fr σ [.r a1,.r a2,.r a3]) h1 h2 h3
theorem g4{R:XR}(h1:P1)(h2:P2)(h3:P3)(h4:P4)(q:vq G C e fr σ [.r a1,.r a2,.r a3,.r a4] (λ r _=>aD G C e fr σ=r)=(P1->P2->P3->P4->aD G C e fr σ=R)):aD G C e fr σ=R:=Eq.mp q (run G C e fr σ [.r a1,.r a2,.r a3,.r a4]) h1 h2 h3 h4
theorem Z5{e:E}(h1:P1)(q:qU G C e fr σ [.r a1] (λ r _=>evE G C e fr σ=r)=(P1->evE G C e fr σ=R)):evE G C e fr σ=R:=Eq.mp q (gR G C e fr σ [.r a1]) h1
theorem Z6{e:E}(h1:P1)(h2:P2)(q:qU G C e fr σ [.r a1,.r a2] (λ r _=>evE G C e fr σ=r)=(P1->P2->evE G C e fr σ=R)):evE G C e fr σ=R:=Eq.mp q (gR G C e fr σ [.r a1,.r a2]) h1 h2
theorem gE3{e:E}(h1:P1)(h2:P2)(h3:P3)(q:qU G C e fr σ [.r a1,.r a2,.r a3] (λ r _=>evE G C e fr σ=r)=(P1->P2->P3->evE G C e fr σ=R)):evE G C e fr σ=R:=Eq.mp q (gR G C e fr σ [.r a1,.r a2,.r a3]) h1 h2 h3
abbrev CF(n:Nat):aG:=pU FT G n
end
def Fcl(σ:ae)(c:Res V):XR->Prop
 |.next _ τ=>∀{υ},τ.take σ.length=υ->c=.ok (.d .none) υ
 |.ret (.d d) τ=>∀{υ},τ.take σ.length=υ->c=.ok (.d d) υ
 |.err τ=>∀{υ},τ.take σ.length=υ->c=.err υ
 |r=>c=agO σ.length r
def fI(n f:Nat)(vs:List V)(σ:ae)(as:List An):Prop:=match FT[f]? with
 |some fd=>if vs.length=fd.mN then vq G (CF n) fd.body (vs.map some++List.replicate (fd.tu - fd.mN) none) σ as λ r _=>Fcl σ (CF (n+1) f vs σ) r else True
 |none=>True
section
variable {σ:ae}{C:aG}{fr:agq}{x:E}{xs:List E}{b c:Bool}
theorem QL{r:XR}:Fcl σ (agO σ.length r) r:=by
 induction r with
 |next fr τ=>exact λ e=>e▸rfl
 |ret v τ=>
  induction v with
  |d d=>exact λ e=>e▸rfl
  |loc k=>exact rfl
 |err τ=>exact λ e=>e▸rfl
 |stuck=>exact rfl
theorem cr(n f:Nat)(vs:List V)(σ:ae)(as:List An):fI n f vs σ as:=by
 unfold fI;cases h:FT[f]? with
 |none=>exact trivial
 |some fd=>
  show if _ then _ else _
  split
  .refine qp G (CF n) fd.body _ σ as _ λ _=>?_;have e:CF (n+1) f vs σ=agO σ.length (aD G (CF n) fd.body (vs.map some++List.replicate (fd.tu - fd.mN) none) σ):=by
    show(match FT[f]? with|some fd=>_|none=>_)=_;rw[h];exact if_pos ‹_›
   rw[e];exact QL
  .exact trivial
theorem zJ(h1:evE G C x fr σ=.ok (.d (.bool b)) σ)(h2:dg G C xs fr σ=.ok (.d (.bool c)) σ):dg G C (x::xs) fr σ=.ok (.d (.bool (b&&c))) σ:=by
 rw[QC,h1];induction b with
 |true=>exact h2
 |false=>rfl
theorem zK(h1:evE G C x fr σ=.ok (.d (.bool b)) σ)(h2:i9 G C xs fr σ=.ok (.d (.bool c)) σ):i9 G C (x::xs) fr σ=.ok (.d (.bool (b || c))) σ:=by
 rw[Il,h1];induction b with
 |true=>rfl
 |false=>exact h2
theorem aN{n k:Nat}(h:k+1<=n):∃m,n=m+1:=⟨n - 1,by exact AG h⟩
theorem LJ(n:Nat)(a b:PyData)(σ:ae):CF (n+1) 0 [.d a,.d b] σ=.ok (.d (.tuple [.str (st 2),a,b])) σ:=cr n 0 [.d a,.d b] σ [] (ah σ)
theorem m7(n:Nat)(a b:Ty)(σ:ae):CF (n+1) 0 [.d (cI a),.d (cI b)] σ=.ok (.d (cI (.fn a b))) σ:=LJ n _ _ σ
end
noncomputable def QM:Ty->Bool
 |.fn a b=>b.eq (.fn a .bool)
 |_=>false
def ags:Tm->Option Ty
 |.var _ _ t=>some t
 |.con x t=>if x.same .eq&&!(QM t) then none else some t
 |.lam _ _ t b=>(ags b).map (.fn t)
 |.app f a=>(ags f).bind λ tf=>(ags a).bind λ ta=>match tf with
  |.fn c d=>if c.eq ta then some d else none
  |_=>none
theorem LM:ags (.var u1 u2 t)=(some t):=rfl
theorem ED:ags (.con x t)=(if x.same .eq&&!(QM t) then none else some t):=rfl
theorem LN:ags (.lam u1 u2 t b)=((ags b).map (.fn t)):=rfl
theorem EE:ags (.app f a)=((ags f).bind λ tf=>(ags a).bind λ ta=>match tf with
  |.fn c d=>if c.eq ta then some d else none
  |_=>none):=rfl
def zL(σ:ae):Option Ty->Res V
 |some t=>.ok (.d (cI t)) σ
 |none=>.err σ
theorem rk:∀{t:Tm} {ty:Ty},ags t=some ty->ty.dp<=t.dp:=by
 intro t;induction t with
 |var x k t=>intro ty h;simp[LM,ED,LN,EE] at h;subst h;exact cy _
 |con x t=>
  intro ty h
  (first|rw[LM] at h|rw[ED] at h|rw[LN] at h|rw[EE] at h)
  obtain rfl:=bD (Option.ite_none_left_eq_some.mp h).2;exact cy _
 |app f a iX gd=>
  intro ty h
  (first|rw[LM] at h|rw[ED] at h|rw[LN] at h|rw[EE] at h)
  obtain⟨tf,hf,h⟩:=Option.bind_eq_some_iff.mp h;obtain⟨ta,ha,h⟩:=Option.bind_eq_some_iff.mp h;have:=iX hf
  clear iX hf;induction tf with
  |fn c d=>obtain rfl:=bD (Option.ite_none_right_eq_some.mp h).2;simp only[Ii,Ij,CW,r9,lM,iK,fx,fy] at this ⊢;exact Sy this
  |_=>cases h
 |lam x k t b ih=>
  intro ty h;simp only[LM,ED,LN,EE,Option.map_eq_some_iff] at h;obtain⟨tb,hb,rfl⟩:=h;have:=ih hb
  simp only[Ii,Ij,CW,r9,lM,iK,fx,fy];exact MN this
theorem Ow(x:Cn):(st x.i==st 5)=x.same .eq:=CU x .eq
theorem agT:∀(t:Tm) (n:Nat) (σ:ae),t.dp+2<=n->t.dp<=800->CF n 1 [.d (ay t)] σ=zL σ (ags t):=by
 intro t;induction t with
 |var x k t=>
  intro n σ hn hd;obtain⟨n,rfl⟩:=aN hn;exact cr n 1 [.d (ay (.var x k t))] σ [] (ah σ)
 |con x t=>
  intro n σ hn hd;obtain⟨n,rfl⟩:=aN hn;induction x with
  |eq=>
   cases t with
   |fn a b=>
    obtain⟨n,rfl⟩:=aN (n:=n) (k:=0) (by exact gn hn rfl);simp only[iK,r9] at hd;have hc:d0 .eq (cI b) (cI (.fn a .bool))=some (.bool (b.eq (.fn a .bool))):=cN _ _ _ (Ik (by exact Sj hd rfl));have hf:=m7 n a .bool σ;show _=zL σ (if true&&!(b.eq (.fn a .bool)) then none else some (.fn a b));cases hb:b.eq (.fn a .bool) with
    |true=>rw[hb] at hc;exact cr (n+1) 1 [.d (ay (.con .eq (.fn a b)))] σ [.r _,.o _] hf hc (ah σ)
    |false=>rw[hb] at hc;exact cr (n+1) 1 [.d (ay (.con .eq (.fn a b)))] σ [.r _,.o _] hf hc (ah σ)
   |bool=>exact cr n 1 [.d (ay (.con .eq .bool))] σ [] (ah σ)
   |ind=>exact cr n 1 [.d (ay (.con .eq .ind))] σ [] (ah σ)
   |any a=>exact cr n 1 [.d (ay (.con .eq (.any a)))] σ [] (ah σ)
  |K=>exact cr n 1 [.d (ay (.con .K t))] σ [] (ah σ)
  |L=>exact cr n 1 [.d (ay (.con .L t))] σ [] (ah σ)
  |M=>exact cr n 1 [.d (ay (.con .M t))] σ [] (ah σ)
  |N=>exact cr n 1 [.d (ay (.con .N t))] σ [] (ah σ)
 |app f a iX gd=>
  intro n σ hn hd;simp only[fx] at hn hd;obtain⟨n,rfl⟩:=aN hn;have h1:=iX n σ (by exact oz hn) (by exact g9 hd);show _=zL σ ((ags f).bind _);cases hf:ags f with
  |none=>rw[hf] at h1;exact cr n 1 [.d (ay (.app f a))] σ [.r _] h1 (ah σ)
  |some tf=>
   have h2:=gd n σ (by exact gJ hn) (by exact fm hd);rw[hf] at h1;show _=zL σ ((ags a).bind _);cases ha:ags a with
   |none=>rw[ha] at h2;exact cr n 1 [.d (ay (.app f a))] σ [.r _,.r _] h1 h2 (ah σ)
   |some ta=>
    have AD:=rk hf;rw[ha] at h2;induction tf with
    |fn c d=>
     simp only[r9] at AD;have hc:d0 .ne (cI c) (cI ta)=some (.bool (!(c.eq ta))):=cN _ _ _ (wc (by exact aj (ao (g9 AD) (g9 hd)) rfl));show _=zL σ (if c.eq ta then some d else none);cases hq:c.eq ta with
     |true=>rw[hq] at hc;exact cr n 1 [.d (ay (.app f a))] σ [.r _,.r _,.o _] h1 h2 hc (ah σ)
     |false=>rw[hq] at hc;exact cr n 1 [.d (ay (.app f a))] σ [.r _,.r _,.o _] h1 h2 hc (ah σ)
    |bool=>exact cr n 1 [.d (ay (.app f a))] σ [.r _,.r _] h1 h2 (ah σ)
    |ind=>exact cr n 1 [.d (ay (.app f a))] σ [.r _,.r _] h1 h2 (ah σ)
    |any x=>exact cr n 1 [.d (ay (.app f a))] σ [.r _,.r _] h1 h2 (ah σ)
 |lam x k t b ih=>
  intro n σ hn hd;simp only[fy] at hn hd;obtain⟨n,rfl⟩:=aN hn;have h1:=ih n σ (by exact gJ hn) (by exact fm hd);show _=zL σ ((ags b).map (.fn t));cases hb:ags b with
  |none=>rw[hb] at h1;exact cr n 1 [.d (ay (.lam x k t b))] σ [.r _] h1 (ah σ)
  |some tb=>
   obtain⟨n,rfl⟩:=aN (n:=n) (k:=0) (by exact gn hn rfl);rw[hb] at h1;exact cr (n+1) 1 [.d (ay (.lam x k t b))] σ [.r _,.r _] h1 (m7 n t tb σ) (ah σ)
noncomputable def bt(v:Vr)(l:List Vr):Bool:=l.any λ w=>w.eq v
theorem gA:bt v l=true↔v∈l:=by
 simp only[bt,List.any_eq_true,Vr.eq_iff];exact⟨λ⟨w,hw,e⟩=>e▸hw,λ h=>⟨v,h,rfl⟩⟩
def bq:Tm->List Vr->List Vr->List Vr
 |.var x k t,b,o=>if bt ⟨x,k,t⟩ b || bt ⟨x,k,t⟩ o then o else o++[⟨x,k,t⟩]
 |.con _ _,_,o=>o
 |.app f a,b,o=>bq a b (bq f b o)
 |.lam x k t e,b,o=>bq e (b++[⟨x,k,t⟩]) o
theorem LO:bq (.var x k t) b o=(if bt ⟨x,k,t⟩ b || bt ⟨x,k,t⟩ o then o else o++[⟨x,k,t⟩]):=rfl
theorem Iq:bq (.con u1 u2) u3 o=(o):=rfl
theorem Ir:bq (.app f a) b o=(bq a b (bq f b o)):=rfl
theorem LP:bq (.lam x k t e) b o=(bq e (b++[⟨x,k,t⟩]) o):=rfl
def aS(t:Tm):List Vr:=bq t [] []
noncomputable def Tm.sz:Tm->Nat
 |.var _ _ _=>1
 |.con _ _=>0
 |.app f a=>f.sz+a.sz
 |.lam _ _ _ b=>b.sz
theorem It:Tm.sz (.var u1 u2 u3)=(1):=rfl
theorem Wm:Tm.sz (.con u1 u2)=(0):=rfl
theorem Iu:Tm.sz (.app f a)=(f.sz+a.sz):=rfl
theorem Ox:Tm.sz (.lam u1 u2 u3 b)=(b.sz):=rfl
theorem gB:∀(t:Tm) (b o:List Vr),(bq t b o).length<=o.length+t.sz:=by
 intro t;induction t with
 |var x k t=>intro b o;(first|rw[LO]|rw[Iq]|rw[Ir]|rw[LP]);split<;>simp[It]
 |con x t=>intro b o;simp[Iq,Wm]
 |app f a iX gd=>intro b o;have:=iX b o;have:=gd b (bq f b o);simp only[Ir,Iu];with_reducible exact FI ‹_› this
 |lam x k t e ih=>intro b o;exact ih _ o
theorem iY(v:Vr):(aV v).depth<=v.t.dp+2:=by have:=dm v.t;simp only[aV,u5,wQ,vA,uW];(apply kD;(apply cV<;>(first|exact dk|(with_reducible apply cV<;>(first|exact dk|(with_reducible apply cV<;>(first|exact this|exact dk)))))))
theorem xA(v:Vr):∀l:List Vr,((l.map aV).any λ y=>PyData.eqv y (aV v))=bt v l
 |[]=>rfl
 |w::r=>by
  have:=xA v r
  simp only[List.map_cons,List.any_cons,xx,bt] at this ⊢;rw[this]
theorem qq(l:List Vr)(h:t.dp<=900):d0 .nZ (.tuple [.str (st 3),.str (nm x k),cI t]) (.list (l.map aV))=some (.bool (!bt ⟨x,k,t⟩ l)):=by
 have hd:=iY ⟨x,k,t⟩;refine cN _ _ _ ?_;show(rU (aV ⟨x,k,t⟩) (.list (l.map aV))).map (!·)=_;rw[sH,if_pos (.inl (by simp only[fj];have:(⟨x,k,t⟩:Vr).t.dp=t.dp:=rfl;exact fK hd h rfl)),xA];rfl
theorem xB(l:List Vr)(h:t.dp<=900):d0 .mem (.tuple [.str (st 3),.str (nm x k),cI t]) (.list (l.map aV))=some (.bool (bt ⟨x,k,t⟩ l)):=by
 have hd:=iY ⟨x,k,t⟩;refine cN _ _ _ ?_;show(rU (aV ⟨x,k,t⟩) (.list (l.map aV)))=_;rw[sH,if_pos (.inl (by simp only[fj];have:(⟨x,k,t⟩:Vr).t.dp=t.dp:=rfl;exact fK hd h rfl)),xA]
def EF(n:Nat)(fr:agq)(v:V)(σ:ae):XR:=match v,σ[n]? with
     |.d x,some (.lst xs)=>if xs.length<=lim then .next fr (σ.set n (.lst (xs++[x]))) else .stuck
     |_,_=>.stuck
theorem zM(e:E)(h:fr[i]?=some (some (.loc n)))(eP:σ[n]?=some (.lst ys)):exS G C (.app i e) fr σ=kt (EF n fr) (evE G C e fr σ):=by
 (first|rw[cz,h]|rw[ja,h]|rw[fZ,h]|rw[kG,h]|rw[jc,h]|rw[ly,h]|rw[je,h]|rw[lz,h]|rw[hH,h]|rw[jf,h]|rw[jg,h]|rw[lA,h]|rw[gO,h]|rw[kH,h]|rw[jh,h]);dsimp only;rw[eP];rfl
theorem qr(x:PyData)(eP:σ[n]?=some (.lst ys))(hl:ys.length<=lim):EF n fr (.d x) σ=.next fr (σ.set n (.lst (ys++[x]))):=by
 unfold EF;rw[eP];dsimp only;rw[if_pos hl]
theorem jx(σ:ae)(k:Nat)(c:agS):(σ.set k c).take σ.length=σ.set k c:=by
 have:(σ.set k c).length=σ.length:=by simp
 rw[←this,List.take_length]
theorem xC{σ:ae}(h:σ[k]?=some c):(σ.set k c')[k]?=some c':=by
 have:=(gi.mp h).1;simp[this]
theorem m8{σ:ae}(h:σ[k]?=some c):σ.set k c=σ:=by
 obtain⟨h1,h2⟩:=gi.mp h;rw[←h2];simp
theorem ij(h:a.length+b.length<=lim):agK .add (.list a) (.list b)=some (.list (a++b)):=by rw[Ge,if_pos h]
theorem m9{C:aG}{fr:agq}{σ:ae}(h:fr[i]?=some (some (.loc n)))(he:evE G C e fr σ=.ok (.d x) σ)(eP:σ[n]?=some (.lst ys))(hl:ys.length<=lim):exS G C (.app i e) fr σ=.next fr (σ.set n (.lst (ys++[x]))):=by
 rw[zM e h eP,he];exact qr x eP hl
theorem uo:∀(t:Tm) (n:Nat) (σ:ae) (k:Nat) (bd o:List Vr),t.dp+2<=n->t.dp<=800->σ[k]?=some (.lst (o.map aV))->bd.length+t.dp<=100000->o.length+t.sz<=100000 ->
  CF n 2 [.d (ay t),.d (.list (bd.map aV)),.loc k] σ=.ok (.d .none) (σ.set k (.lst ((bq t bd o).map aV))):=by
 intro t;induction t with
 |var x k t=>
  intro n σ j bd o hn hd eP hb ho;obtain⟨n,rfl⟩:=aN hn;simp only[lM,It] at hd ho;have e1:=qq (x:=x) (k:=k) bd (show t.dp<=900 by exact aj hd rfl);have e2:=(zH (d0 .nZ) (ay (.var x k t)) eP).trans (congrArg (Bq σ) (qq (x:=x) (k:=k) o (show t.dp<=900 by exact aj hd rfl)))
  (first|rw[LO]|rw[Iq]|rw[Ir]|rw[LP])
  generalize bt ⟨x,k,t⟩ bd=b1,bt ⟨x,k,t⟩ o=b2 at e1 e2 ⊢;induction b1 with
  |true=>exact cr n 2 [.d (ay (.var x k t)),.d (.list (bd.map aV)),.loc j] σ [.o _] e1 ((ah σ).trans (m8 eP).symm)
  |false=>
   induction b2 with
   |true=>exact cr n 2 [.d (ay (.var x k t)),.d (.list (bd.map aV)),.loc j] σ [.o _,.r _] e1 e2 ((ah σ).trans (m8 eP).symm)
   |false=>
    have ha:=m9 (C:=CF n) (fr:=[Dv (ay (.var x k t)),Dv (.list (bd.map aV)),some (.loc j)]) (i:=2) (e:=.var 0) rfl rfl eP (show(o.map aV).length<=lim by simp[lim];exact eF ho rfl);exact cr n 2 [.d (ay (.var x k t)),.d (.list (bd.map aV)),.loc j] σ [.o _,.r _,.x _] e1 e2 ha ((jx ..).trans (by simp only[Bool.or_false,Bool.false_eq_true,if_false,List.map_append];rfl))
 |con x t=>
  intro n σ j bd o hn hd eP hb ho;obtain⟨n,rfl⟩:=aN hn;exact cr n 2 [.d (ay (.con x t)),.d (.list (bd.map aV)),.loc j] σ [] ((ah σ).trans (m8 eP).symm)
 |app f a iX gd=>
  intro n σ j bd o hn hd eP hb ho;simp only[fx,Iu] at hn hd hb ho;obtain⟨n,rfl⟩:=aN hn;have Bt:=gB f bd o;exact cr n 2 [.d (ay (.app f a)),.d (.list (bd.map aV)),.loc j] σ [.r _,.r _] (iX n σ j bd o (by exact oz hn) (by exact g9 hd) eP (by exact BY hb) (by exact M5 ho)) (gd n _ j bd (bq f bd o) (by exact gJ hn) (by exact fm hd) (xC eP) (by exact sZ hb) (by exact MO ho Bt)) (by rw[List.set_set];exact jx ..)
 |lam x k t b ih=>
  intro n σ j bd o hn hd eP hb ho;simp only[fy,Ox] at hn hd hb ho;obtain⟨n,rfl⟩:=aN hn;have e:=(ij (show(bd.map aV).length+[aV ⟨x,k,t⟩].length<=lim by simp[lim];exact eF hb rfl)).trans (congrArg (λ l=>some (PyData.list l)) (List.map_append (f:=aV) (l₁:=bd) (l₂:=[(⟨x,k,t⟩:Vr)])).symm);exact cr n 2 [.d (ay (.lam x k t b)),.d (.list (bd.map aV)),.loc j] σ [.o _,.r _] e (ih n σ j (bd++[(⟨x,k,t⟩:Vr)]) o (by exact gJ hn) (by exact fm hd) eP (by simp;exact BZ hb) (by exact ho)) (jx ..)
theorem dU(σ:ae)(c:agS):(σ++[c])[σ.length]?=some c:=by simp
theorem jy(σ:ae)(c c':agS):(σ++[c]).set σ.length c'=σ++[c']:=by simp
theorem nL(σ:ae)(c:agS):(σ++[c]).take σ.length=σ:=by simp
theorem we(σ:ae)(xs:List PyData):agO σ.length (.ret (.loc σ.length) (σ++[.lst xs]))=.ok (.d (.list xs)) σ:=by
 unfold agO;dsimp only;rw[if_neg (Nat.lt_irrefl _),dU];exact congrArg (Res.ok _) (nL ..)
theorem nN(t:Tm)(n:Nat)(σ:ae)(hn:t.dp+3<=n)(hd:t.dp<=800)(hs:t.sz<=100000):CF n 3 [.d (ay t)] σ=.ok (.d (.list ((aS t).map aV))) σ:=by
 obtain⟨n,rfl⟩:=aN hn;have h:=uo t n (σ++[.lst []]) σ.length [] [] (by exact kE hn rfl) hd (dU σ _) (by simp;exact aj hd rfl) (by simpa using hs);exact(cr n 3 [.d (ay t)] σ [.r _] h).trans (by rw[jy];exact we ..)
set_option genInjectivity true in
inductive Db where|bound (i:Nat)|var (x:Bs) (k:Nat) (t:Ty)|con (x:Cn) (t:Ty)|app (f a:Db)|lam (t:Ty) (b:Db)
noncomputable def Db.ctorIdx(t:Db):Nat:=t.casesOn (λ _=>0) (λ _ _ _=>1) (λ _ _=>2) (λ _ _=>3) (λ _ _=>4)
noncomputable def Db.eq:Db->Db->Bool
 |.bound i,e=>match e with
  |.bound j=>i==j
  |_=>false
 |.var x k t,e=>match e with
  |.var y l u=>x.same y&&k==l&&t.eq u
  |_=>false
 |.con x t,e=>match e with
  |.con y u=>x.same y&&t.eq u
  |_=>false
 |.app f a,e=>match e with
  |.app g b=>f.eq g&&a.eq b
  |_=>false
 |.lam t a,e=>match e with
  |.lam u b=>t.eq u&&a.eq b
  |_=>false
theorem Zc9:Db.eq (.bound i) e=(match e with
  |.bound j=>i==j
  |_=>false):=rfl
theorem Wn:Db.eq (.var x k t) e=(match e with
  |.var y l u=>x.same y&&k==l&&t.eq u
  |_=>false):=rfl
theorem Wo:Db.eq (.con x t) e=(match e with
  |.con y u=>x.same y&&t.eq u
  |_=>false):=rfl
theorem Wq:Db.eq (.app f a) e=(match e with
  |.app g b=>f.eq g&&a.eq b
  |_=>false):=rfl
theorem Wr:Db.eq (.lam t a) e=(match e with
  |.lam u b=>t.eq u&&a.eq b
  |_=>false):=rfl
theorem Db.eq_iff:∀{a b:Db},a.eq b=true↔a=b:=by
 intro a;induction a with
 |bound i=>intro b;induction b<;>simp[Zc9]
 |var x k t=>intro b;induction b<;>simp[Wn,Bs.same_iff,Ty.eq_iff,and_assoc]
 |con x t=>intro b;induction b<;>simp[Wo,Cn.same_iff,Ty.eq_iff]
 |app f a iX gd=>intro b;induction b<;>simp[Wq,iX,gd]
 |lam t a ih=>intro b;induction b<;>simp[Wr,Ty.eq_iff,ih]
noncomputable def Db.dp:Db->Nat
 |.bound _=>0
 |.var _ _ t=>t.dp
 |.con _ t=>t.dp
 |.app f a=>max f.dp a.dp+1
 |.lam t b=>max t.dp b.dp+1
theorem LQ:Db.dp (.bound u1)=(0):=rfl
theorem Iw:Db.dp (.var u1 u2 t)=(t.dp):=rfl
theorem Iy:Db.dp (.con u1 t)=(t.dp):=rfl
theorem Iz:Db.dp (.app f a)=(max f.dp a.dp+1):=rfl
theorem IA:Db.dp (.lam t b)=(max t.dp b.dp+1):=rfl
def xD:Db->PyData
 |.bound i=>.tuple [.str (st 8),.int i]
 |.var x k t=>.tuple [.str (st 3),.str (nm x k),cI t]
 |.con x t=>.tuple [.str (st 4),.str (st x.i),cI t]
 |.app f a=>.tuple [.str (st 7),xD f,xD a]
 |.lam t b=>.tuple [.str (st 6),cI t,xD b]
theorem EG:xD (.bound i)=(.tuple [.str (st 8),.int i]):=rfl
theorem EH:xD (.var x k t)=(.tuple [.str (st 3),.str (nm x k),cI t]):=rfl
theorem EI:xD (.con x t)=(.tuple [.str (st 4),.str (st x.i),cI t]):=rfl
theorem EJ:xD (.app f a)=(.tuple [.str (st 7),xD f,xD a]):=rfl
theorem EK:xD (.lam t b)=(.tuple [.str (st 6),cI t,xD b]):=rfl
theorem Bu(i j:Int):PyData.eqv (.int i) (.int j)=(i==j):=rfl
theorem QN:∀a b:Db,PyData.eqv (xD a) (xD b)=a.eq b:=by
 intro a;induction a with
 |bound i=>intro b;induction b<;>simp[EG,EH,EI,EJ,EK,Zc9,dZ,eK,Bu,fw,di,oE,ig];rw[Bool.eq_iff_iff];simp;exact MT
 |var x k t=>intro b;induction b<;>simp[EG,EH,EI,EJ,EK,Wn,dZ,eK,fw,di,oG,ig,CT,iE,Bool.and_assoc]
 |con x t=>intro b;induction b<;>simp[EG,EH,EI,EJ,EK,Wo,dZ,eK,fw,di,oG,ig,CU,iE]
 |app f a iX gd=>intro b;induction b<;>simp[EG,EH,EI,EJ,EK,Wq,dZ,eK,fw,di,oG,ig,iX,gd]
 |lam t a ih=>intro b;induction b<;>simp[EG,EH,EI,EJ,EK,Wr,dZ,eK,fw,di,oG,ig,iE,ih]
theorem qt:∀t:Db,(xD t).depth<=t.dp+2
 |.bound i=>by simp[EG,u5,Xl,wQ,vA,uW]
 |.var x k t=>by have:=dm t;simp only[EH,u5,wQ,vA,uW,Iw];(apply kD;(apply cV<;>(first|exact dk|(with_reducible apply cV<;>(first|exact dk|(with_reducible apply cV<;>(first|exact this|exact dk)))))))
 |.con x t=>by have:=dm t;simp only[EI,u5,wQ,vA,uW,Iy];(apply kD;(apply cV<;>(first|exact dk|(with_reducible apply cV<;>(first|exact dk|(with_reducible apply cV<;>(first|exact this|exact dk)))))))
 |.app f a=>by
  have:=qt f;have:=qt a
  simp only[EJ,u5,wQ,vA,uW,Iz];with_reducible exact B0 ‹_› this
 |.lam t b=>by
  have:=dm t;have:=qt b
  simp only[EK,u5,wQ,vA,uW,IA];with_reducible exact Sq ‹_› this
noncomputable def iS(v:Vr)(env:List Vr):Nat->Option Nat
 |0=>none
 |j+1=>if(match env[j]? with|some w=>w.eq v|none=>false) then some j else iS v env j
theorem Z7:iS v env 0=(none):=rfl
theorem Z8:iS v env (j+1)=(if(match env[j]? with|some w=>w.eq v|none=>false) then some j else iS v env j):=rfl
def C1(v:Vr)(env:List Vr):Db:=match iS v env env.length with
 |some i=>.bound i
 |none=>.var v.x v.k v.t
def ag5:Tm->List Vr->Db
 |.var x k t,env=>C1 ⟨x,k,t⟩ env
 |.con x t,_=>.con x t
 |.app f a,env=>.app (ag5 f env) (ag5 a env)
 |.lam x k t e,env=>.lam t (ag5 e (env++[⟨x,k,t⟩]))
theorem IB:ag5 (.var x k t) env=(C1 ⟨x,k,t⟩ env):=rfl
theorem IC:ag5 (.con x t) u1=(.con x t):=rfl
theorem ID:ag5 (.app f a) env=(.app (ag5 f env) (ag5 a env)):=rfl
theorem IE:ag5 (.lam x k t e) env=(.lam t (ag5 e (env++[⟨x,k,t⟩]))):=rfl
def alike(a b:Tm):Bool:=(ag5 a []).eq (ag5 b [])
theorem LR:∀(t:Tm) (env:List Vr),(ag5 t env).dp<=t.dp:=by
 intro t;induction t with
 |var x k t=>intro env;((first|rewrite[IB]|rewrite[IC]|rewrite[ID]|rewrite[IE]);rw[C1]);generalize iS ⟨x,k,t⟩ env env.length=o;induction o<;>simp[LQ,Iw,Iy,Iz,IA,lM,iK,fx,fy]
 |con x t=>intro env;simp[IB,IC,ID,IE,LQ,Iw,Iy,Iz,IA,lM,iK,fx,fy]
 |app f a iX gd=>intro env;have:=iX env;have:=gd env;simp only[IB,IC,ID,IE,LQ,Iw,Iy,Iz,IA,lM,iK,fx,fy];with_reducible exact MM ‹_› this
 |lam x k t e ih=>intro env;have:=ih (env++[⟨x,k,t⟩]);simp only[IB,IC,ID,IE,LQ,Iw,Iy,Iz,IA,lM,iK,fx,fy];exact MN this
theorem agH(xs:List PyData)(h:xs.length<=lim):gr (.list xs)=some (.int xs.length):=by rw[Uc,if_pos h]
theorem LU(xs:List PyData)(h:xs.length<=lim):gr (.tuple xs)=some (.int xs.length):=by rw[Ud,if_pos h]
theorem sub_int(a b:Int):agK .sub (.int a) (.int b)=some (.int (a - b)):=rfl
theorem C2(j:Nat)(h:j<1000):O6 (j:Int)=some j:=by
 show(if j<lim then some j else none)=some j;rw[if_pos (by simp only[lim];exact FH h rfl)]
theorem IF(xs:List PyData)(j:Nat)(h:j<1000):dD (.list xs) (.int j)=xs[j]?:=by
 show((O6 (j:Int)).bind λ n=>xs[n]?)=_;rw[C2 j h];rfl
def bN:List S:=[.ite (.cmp .eq (.idx (.var 1) (.var 2)) (.var 0)) [.ret (.tup [(Qs 8),(.var 2)])] []]
abbrev Fn(x:Bs)(k:Nat)(t:Ty)(env:List Vr)(w:Option V):agq:=[Dv (ay (.var x k t)),Dv (.list (env.map aV)),w]
theorem EL(n:Nat)(x:Bs)(k:Nat)(t:Ty)(env:List Vr)(σ:ae)(ht:t.dp<=900):∀(j:Nat) (w:Option V),j<=env.length->env.length<=900 ->
  ∃w',bl (aD G (CF n) bN) (.var 2) ((List.range j).map λ(i:Nat)=>PyData.int (((j:Nat):Int) - 1+-1 * i)) (Fn x k t env w) σ =
   match iS ⟨x,k,t⟩ env j with
   |some i=>.ret (.d (xD (.bound i))) σ
   |none=>.next (Fn x k t env w') σ:=by
 intro j;induction j with
 |zero=>intro w _ _;exact⟨w,rfl⟩
 |succ j ih=>
  intro w hj he;have e7:j<env.length:=by exact Ng hj
  have hr:((List.range (j+1)).map λ(i:Nat)=>PyData.int (((j+1:Nat):Int) - 1+-1 * i))=.int j::(List.range j).map λ(i:Nat)=>PyData.int (((j:Nat):Int) - 1+-1 * i):=by
   rw[List.range_succ_eq_map,List.map_cons,List.map_map];congr 1
   .congr 1;lia
   .refine List.map_congr_left λ i _=>?_;simp only[Function.comp];congr 1;lia
  have Ws:dD (.list (env.map aV)) (.int j)=some (aV env[j]):=(IF _ j (by exact Ts hj he rfl)).trans (by simp[e7]);have hc:d0 .eq (aV env[j]) (ay (.var x k t))=some (.bool (env[j].eq ⟨x,k,t⟩)):=by
   have hd:=iY ⟨x,k,t⟩;refine cN _ _ _ ?_;show eS .eq (aV env[j]) (aV ⟨x,k,t⟩)=_;rw[oB,if_pos (.inl (by simp only[fj];have:(⟨x,k,t⟩:Vr).t.dp=t.dp:=rfl;exact fK hd ht rfl)),xx]
  obtain⟨w',QO⟩:=ih (Iv j) (Nat.le_of_lt e7) he;refine⟨w',?_⟩
  (rewrite[hr];(first|rewrite[Z7]|rewrite[Z8]);rw[gj e7])
  show(aD G (CF n) bN (Fn x k t env (Iv j)) σ).andThen _=match(if env[j].eq ⟨x,k,t⟩=true then some j else iS ⟨x,k,t⟩ env j) with|some i=>_|none=>_
  generalize env[j].eq ⟨x,k,t⟩=q at hc ⊢;induction q with
  |true=>exact congrArg (XR.andThen _) (run G (CF n) bN (Fn x k t env (Iv j)) σ [.o _,.o _] Ws hc)
  |false=>exact(congrArg (XR.andThen _) (run G (CF n) bN (Fn x k t env (Iv j)) σ [.o _,.o _] Ws hc)).trans QO
theorem wg:∀(t:Tm) (n:Nat) (σ:ae) (env:List Vr),t.dp+2<=n->t.dp<=800->env.length+t.dp<=900->CF n 4 [.d (ay t),.d (.list (env.map aV))] σ=.ok (.d (xD (ag5 t env))) σ:=by
 intro t;induction t with
 |var x k t=>
  intro n σ env hn hd he;obtain⟨n,rfl⟩:=aN hn;simp only[lM] at hd he;obtain⟨w',QO⟩:=EL n x k t env σ (by exact aj hd rfl) env.length none (cy _) (by exact eF he rfl);have hl:=(agH (env.map aV) (by simp[lim];exact eF he rfl)).trans (congrArg (λ l:Nat=>some (PyData.int l)) (bR ..));have hr:iO [.int ((env.length:Int) - 1),.int (-1),.int (-1)]=some ((List.range env.length).map λ(i:Nat)=>PyData.int ((env.length:Int) - 1+-1 * i)):=by
   rw[Kc,if_pos ⟨rfl,rfl,by exact Int.sub_le_sub_right (Int.natCast_nonneg _) 1,by exact Int.le_trans (Int.sub_le_self _ (Int.le_of_lt Int.zero_lt_one)) (Int.ofNat_le.mpr (eF he rfl))⟩];have:((env.length:Int) - 1+1).toNat=env.length:=by exact congrArg Int.toNat (Int.sub_add_cancel _ _)
   rw[this]
  have hx:zI (aD G (CF n) bN) 2 (Fn x k t env none) [.d (.int ((env.length:Int) - 1)),.d (.int (-1)),.d (.int (-1))] σ=_:=(congrArg (λ o=>(Res.of σ o).then λ items σ=>bl (aD G (CF n) bN) (.var 2) items (Fn x k t env none) σ) hr).trans QO
  ((first|rewrite[IB]|rewrite[IC]|rewrite[ID]|rewrite[IE]);rw[C1])
  generalize iS ⟨x,k,t⟩ env env.length=o at hx ⊢;induction o<;>exact cr n 4 [.d (ay (.var x k t)),.d (.list (env.map aV))] σ [.o _,.o _,.x _] hl (sub_int ..) hx (ah σ)
 |con x t=>
  intro n σ env hn hd he;obtain⟨n,rfl⟩:=aN hn;exact cr n 4 [.d (ay (.con x t)),.d (.list (env.map aV))] σ [] (ah σ)
 |app f a iX gd=>
  intro n σ env hn hd he;simp only[fx] at hn hd he;obtain⟨n,rfl⟩:=aN hn;exact cr n 4 [.d (ay (.app f a)),.d (.list (env.map aV))] σ [.r _,.r _] (iX n σ env (by exact oz hn) (by exact g9 hd) (by exact BY he)) (gd n σ env (by exact gJ hn) (by exact fm hd) (by exact sZ he)) (ah σ)
 |lam x k t b ih=>
  intro n σ env hn hd he;simp only[fy] at hn hd he;obtain⟨n,rfl⟩:=aN hn;have e:=(ij (show(env.map aV).length+[aV ⟨x,k,t⟩].length<=lim by simp[lim];exact eF he rfl)).trans (congrArg (λ l=>some (PyData.list l)) (List.map_append (f:=aV) (l₁:=env) (l₂:=[(⟨x,k,t⟩:Vr)])).symm);exact cr n 4 [.d (ay (.lam x k t b)),.d (.list (env.map aV))] σ [.o _,.r _] e (ih n σ (env++[(⟨x,k,t⟩:Vr)]) (by exact gJ hn) (by exact fm hd) (by simp;exact BZ he)) (ah σ)
theorem lO(a b:Tm)(n:Nat)(σ:ae)(ha:a.dp+3<=n)(hb:b.dp+3<=n)(tD:a.dp<=800)(Wu:b.dp<=800):CF n 5 [.d (ay a),.d (ay b)] σ=.ok (.d (.bool (alike a b))) σ:=by
 obtain⟨n,rfl⟩:=aN ha;have h1:=wg a n σ [] (by exact kE ha rfl) tD (by simp;exact aj tD rfl);have h2:=wg b n σ [] (by exact kE hb rfl) Wu (by simp;exact aj Wu rfl);have hc:d0 .eq (xD (ag5 a [])) (xD (ag5 b []))=some (.bool (alike a b)):=by
  have:=qt (ag5 a []);have:=LR a []
  refine cN _ _ _ ?_;rw[oB,if_pos (.inr (by simp only[fj];exact aj (ao ‹(xD (ag5 a [])).depth<=_› (d7 (ao this tD) 2)) rfl)),QN];rfl
 exact cr n 5 [.d (ay a),.d (ay b)] σ [.r _,.r _,.o _] h1 h2 hc (ah σ)
inductive AE(σ:ae):V->List PyData->Prop
 |list (xs:List PyData):AE σ (.d (.list xs)) xs
 |tuple (xs:List PyData):AE σ (.d (.tuple xs)) xs
 |loc {k:Nat} {xs:List PyData}:σ[k]?=some (.lst xs)->AE σ (.loc k) xs
theorem AE.len{σ:ae}{pv:V}{xs:List PyData}(h:AE σ pv xs)(hl:xs.length<=lim):ou gr pv σ=.ok (.d (.int xs.length)) σ:=by
 induction h with
 |list=>rw[LG,agH _ hl];rfl
 |tuple=>rw[LG,LU _ hl];rfl
 |loc h=>rw[Br _ h,agH _ hl];rfl
theorem o5{body:agq->ae->XR}{t:Tg}{σ:ae}{β:Type}(enc:β->PyData)(p:β->Option PyData)(Fp:agq->Prop)(dW:∀fr x,Fp fr->∃cQ,asg σ t (.d (enc x)) fr=some cQ/\(match p x with|some r=>body cQ σ=.ret (.d r) σ|none=>∃hG,Fp hG/\body cQ σ=.next hG σ)):∀(items:List β) (fr:agq),Fp fr->∃aR,Fp aR/\bl body t (items.map enc) fr σ=match items.findSome? p with|some r=>.ret (.d r) σ|none=>.next aR σ
 |[],fr,h=>⟨fr,h,rfl⟩
 |x::xs,fr,h=>by
  obtain⟨cQ,h1,h2⟩:=dW fr x h;rw[List.map_cons,sU,h1,nK,List.findSome?_cons];cases hp:p x with
  |some r=>rw[hp] at h2;rw[h2];exact⟨fr,h,rfl⟩
  |none=>
   rw[hp] at h2;obtain⟨hG,h3,h4⟩:=h2;obtain⟨aR,h5,h6⟩:=o5 enc p Fp dW xs hG h3;exact⟨aR,h5,by rw[h4];exact h6⟩
theorem zN{body:agq->ae->XR}{t:Tg}{σ:ae}{β:Type}(enc:β->PyData)(p:β->Option PyData)(Fp:agq->Prop){k:Nat}{all:List PyData}(hk:σ[k]?=some (.lst all))(dW:∀fr x,Fp fr->∃cQ,asg σ t (.d (enc x)) fr=some cQ/\(match p x with|some r=>body cQ σ=.ret (.d r) σ|none=>∃hG,Fp hG/\body cQ σ=.next hG σ)):∀(items:List β) (i fuel:Nat) (fr:agq),all.drop i=items.map enc->items.length<fuel->Fp fr->∃aR,Fp aR/\fR body t k fuel i fr σ=match items.findSome? p with|some r=>.ret (.d r) σ|none=>.next aR σ
 |[],i,0,fr,hd,hf,h=>by simp at hf
 |[],i,fuel+1,fr,hd,hf,h=>by
  have:all[i]?=none:=by
   rw[List.getElem?_eq_none_iff];simpa using hd
  exact⟨fr,h,by((first|rewrite[yy]|rewrite[yz]);rw[hk]);dsimp only;rw[this];rfl⟩
 |x::xs,i,0,fr,hd,hf,h=>by simp at hf
 |x::xs,i,fuel+1,fr,hd,hf,h=>by
  have hi:all[i]?=some (enc x):=by
   have:=congrArg (λ l=>l[0]?) hd
   simpa using this
  have vE:all.drop (i+1)=xs.map enc:=by
   have:=congrArg List.tail hd
   simpa using this
  obtain⟨cQ,h1,h2⟩:=dW fr x h
  ((first|rewrite[yy]|rewrite[yz]);rw[hk]);dsimp only;rw[hi];dsimp only;rw[h1];dsimp only
  rw[List.findSome?_cons];cases hp:p x with
  |some r=>rw[hp] at h2;rw[h2];exact⟨fr,h,rfl⟩
  |none=>
   rw[hp] at h2;obtain⟨hG,h3,h4⟩:=h2;obtain⟨aR,h5,h6⟩:=zN enc p Fp hk dW xs (i+1) fuel hG vE (by simp at hf;exact hf) h3;exact⟨aR,h5,by rw[h4];exact h6⟩
theorem uq{body:agq->ae->XR}{t:Tg}{σ:ae}{β:Type}(enc:β->PyData)(p:β->Option PyData)(Fp:agq->Prop){pv:V}{items:List β}(hi:AE σ pv (items.map enc))(dW:∀fr x,Fp fr->∃cQ,asg σ t (.d (enc x)) fr=some cQ/\(match p x with|some r=>body cQ σ=.ret (.d r) σ|none=>∃hG,Fp hG/\body cQ σ=.next hG σ)){fr:agq}(nG:Fp fr):∃aR,Fp aR/\mh body t fr pv σ=match items.findSome? p with|some r=>.ret (.d r) σ|none=>.next aR σ:=by
 generalize hx:items.map enc=xs at hi;cases hi with
 |list=>rw[wd,←hx];exact o5 enc p Fp dW items fr nG
 |tuple=>rw[lN,←hx];exact o5 enc p Fp dW items fr nG
 |loc h=>
  rename_i k;have:mh body t fr (.loc k) σ=fR body t k (xs.length+1) 0 fr σ:=by unfold mh;dsimp only;rw[h];rfl
  rw[this];exact zN enc p Fp h dW items 0 _ fr (by simpa using hx.symm) (by rw[←hx];simp) nG
theorem o6{body:agq->ae->XR}{t:Tg}{α β:Type}(enc:β->PyData)(vt:α->agq)(qV:α->ae)(step:α->β->α)(P:α->List β->Prop)(dW:∀a x r,P a (x::r)->∃cQ,asg (qV a) t (.d (enc x)) (vt a)=some cQ/\body cQ (qV a)=.next (vt (step a x)) (qV (step a x))/\P (step a x) r):∀(items:List β) (a:α),P a items->bl body t (items.map enc) (vt a) (qV a)=.next (vt (items.foldl step a)) (qV (items.foldl step a))
 |[],a,h=>rfl
 |x::xs,a,h=>by
  obtain⟨cQ,h1,h2,h3⟩:=dW a x xs h;rw[List.map_cons,sU,h1,nK,h2,gZ,List.foldl_cons];exact o6 enc vt qV step P dW xs (step a x) h3
theorem zO{body:agq->ae->XR}{t:Tg}{α β:Type}(enc:β->PyData)(vt:α->agq)(qV:α->ae)(step:α->β->α)(P:α->List β->Prop){k:Nat}{all:List PyData}(hk:∀a r,P a r->(qV a)[k]?=some (.lst all))(dW:∀a x r,P a (x::r)->∃cQ,asg (qV a) t (.d (enc x)) (vt a)=some cQ/\body cQ (qV a)=.next (vt (step a x)) (qV (step a x))/\P (step a x) r):∀(items:List β) (i fuel:Nat) (a:α),all.drop i=items.map enc->items.length<fuel->P a items->fR body t k fuel i (vt a) (qV a)=.next (vt (items.foldl step a)) (qV (items.foldl step a))
 |[],i,0,a,hd,hf,h=>by simp at hf
 |[],i,fuel+1,a,hd,hf,h=>by
  have:all[i]?=none:=by
   rw[List.getElem?_eq_none_iff];simpa using hd
  ((first|rewrite[yy]|rewrite[yz]);rw[hk a _ h]);dsimp only;rw[this];rfl
 |x::xs,i,0,a,hd,hf,h=>by simp at hf
 |x::xs,i,fuel+1,a,hd,hf,h=>by
  have hi:all[i]?=some (enc x):=by
   have:=congrArg (λ l=>l[0]?) hd
   simpa using this
  have vE:all.drop (i+1)=xs.map enc:=by
   have:=congrArg List.tail hd
   simpa using this
  obtain⟨cQ,h1,h2,h3⟩:=dW a x xs h
  ((first|rewrite[yy]|rewrite[yz]);rw[hk a _ h]);dsimp only;rw[hi];dsimp only;rw[h1];dsimp only
  rw[h2,gZ,List.foldl_cons];exact zO enc vt qV step P hk dW xs (i+1) fuel (step a x) vE (by simp at hf;exact hf) h3
theorem nc{body:agq->ae->XR}{t:Tg}{α β:Type}(enc:β->PyData)(vt:α->agq)(qV:α->ae)(step:α->β->α)(P:α->List β->Prop){pv:V}{items:List β}{a:α}(hi:AE (qV a) pv (items.map enc))(hk:∀k all,(qV a)[k]?=some (.lst all)->pv=.loc k->∀b r,P b r->(qV b)[k]?=some (.lst all))(dW:∀a x r,P a (x::r)->∃cQ,asg (qV a) t (.d (enc x)) (vt a)=some cQ/\body cQ (qV a)=.next (vt (step a x)) (qV (step a x))/\P (step a x) r)(hP:P a items):mh body t (vt a) pv (qV a)=.next (vt (items.foldl step a)) (qV (items.foldl step a)):=by
 generalize hx:items.map enc=xs at hi;cases hi with
 |list=>rw[wd,←hx];exact o6 enc vt qV step P dW items a hP
 |tuple=>rw[lN,←hx];exact o6 enc vt qV step P dW items a hP
 |loc h=>
  rename_i k;have:mh body t (vt a) (.loc k) (qV a)=fR body t k (xs.length+1) 0 (vt a) (qV a):=by unfold mh;dsimp only;rw[h];rfl
  rw[this];exact zO enc vt qV step P (hk k xs h rfl) dW items 0 _ a (by simpa using hx.symm) (by rw[←hx];simp) hP
theorem agZ{β:Type}(enc:β->PyData)(g:β->Option PyData){f:PyData->ae->Res (Option PyData)}{σ:ae}:∀(items:List β),(∀x∈items,f (enc x) σ=.ok (g x) σ)->aA f (items.map enc) σ=.ok (items.filterMap g) σ
 |[],_=>rfl
 |x::xs,h=>by
  (rewrite[List.map_cons];(first|rewrite[Gi]|rewrite[Gj]);rw[h x dC,Res.ax,agZ enc g xs λ y hy=>h y (d8 _ hy),Res.ax,List.filterMap_cons])
  cases g x<;>rfl
def zP(G:List PyData)(C:aG)(n:Nat)(elt:E)(t:Tg)(ifs:List E)(fr:agq)(v:V)(σ:ae):Res V:=match v with
   |.d x=>(Res.of σ (agt x)).bind λ items σ=>
     if items.length<=lim then
     (aA (λ y σ=>(Res.of σ (asg σ t (.d y) (fr++List.replicate n none))).bind λ aR σ=>(dg G C ifs aR σ).bind λ b σ=>(Res.of σ (aP b)).bind λ b σ=>
      if b then(evE G C elt aR σ).bind λ r σ=>match r with
       |.d z=>.ok (some z) σ
       |.loc _=>.stuck
      else .ok none σ) items σ).bind λ ys σ=>.ok (.d (.list ys)) σ
     else .stuck
   |.loc m=>(Res.of σ (rV σ m)).bind λ xs σ=>
     if(agF elt&&ifs.isEmpty)=true/\xs.length<=lim then
     (aA (λ y σ=>(Res.of σ (asg σ t (.d y) (fr++List.replicate n none))).bind λ aR σ=>(evE G C elt aR σ).bind λ r σ=>match r with
       |.d z=>.ok (some z) σ
       |.loc _=>.stuck) xs σ).bind λ ys σ=>.ok (.d (.list ys)) σ
     else .stuck
section
variable {G:List PyData}{C:aG}{ifs:List E}
theorem o7{fr:agq}{σ:ae}(n:Nat)(elt:E)(t:Tg)(it:E)(ifs:List E):evE G C (.comp n elt t it ifs) fr σ=k1 (zP G C n elt t ifs fr) (evE G C it fr σ):=by rw[pV];rfl
theorem nd{fr:agq}{σ:ae}{n:Nat}{elt:E}{t:Tg}{β:Type}(enc:β->PyData)(g:β->Option PyData){items:List β}{d:PyData}(hd:agt d=some (items.map enc))(hl:items.length<=lim)(h:∀x∈items,((Res.of σ (asg σ t (.d (enc x)) (fr++List.replicate n none))).bind λ aR σ=>(dg G C ifs aR σ).bind λ b σ=>(Res.of σ (aP b)).bind λ b σ=>
      if b then(evE G C elt aR σ).bind λ r σ=>match r with
       |.d z=>.ok (some z) σ
       |.loc _=>.stuck
      else .ok none σ)=.ok (g x) σ):zP G C n elt t ifs fr (.d d) σ=.ok (.d (.list (items.filterMap g))) σ:=by
 unfold zP;dsimp only;rw[hd,Res.bx,Res.ax,if_pos (by simpa using hl),agZ enc g items h,Res.ax]
noncomputable abbrev Pr:=Vr×Tm
noncomputable abbrev Nx:=Bs×Nat
def sV(p:Pr):PyData:=.tuple [aV p.1,ay p.2]
def lu(p:Nx):PyData:=.str (nm p.1 p.2)
noncomputable def kR(v:Vr):Nx:=(v.x,v.k)
noncomputable def o8(x:Bs)(k:Nat)(l:List Nx):Bool:=l.any λ n=>n.1.same x&&n.2==k
noncomputable def oH(v:Vr):List Pr->Option Tm
 |[]=>none
 |(w,s)::r=>if w.eq v then some s else oH v r
theorem Wv:oH v ([])=(none):=rfl
theorem Ww:oH v ((w,s)::r)=(if w.eq v then some s else oH v r):=rfl
def iF(names:List Nx)(x:Bs):Nat->Nat->Nat
 |0,k=>k
 |f+1,k=>if o8 x k names then iF names x f (k+1) else k
theorem QP:iF names x 0 k=(k):=rfl
theorem QR:iF names x (f+1) k=(if o8 x k names then iF names x f (k+1) else k):=rfl
def bH(v:Vr)(here:List Vr)(ps:List Pr):List Pr:=ps.filter λ p=>!(p.1.eq v)&&bt p.1 here
def agJ(here:List Vr)(inner:List Pr):List Nx:=here.map kR++inner.flatMap λ p=>(aS p.2).map kR
def jz(v:Vr)(inner:List Pr):Bool:=inner.any λ p=>bt v (aS p.2)
def put:Tm->List Pr->Tm
 |.con x t,_=>.con x t
 |.var x k t,ps=>(oH ⟨x,k,t⟩ ps).getD (.var x k t)
 |.app f a,ps=>if ps.isEmpty then .app f a else .app (put f ps) (put a ps)
 |.lam x k t b,ps=>if ps.isEmpty then .lam x k t b else
   if jz ⟨x,k,t⟩ (bH ⟨x,k,t⟩ (aS b) ps) then
    .lam x (iF (agJ (aS b) (bH ⟨x,k,t⟩ (aS b) ps)) x 900 k) t
     (put b (bH ⟨x,k,t⟩ (aS b) ps++[(⟨x,k,t⟩,.var x (iF (agJ (aS b) (bH ⟨x,k,t⟩ (aS b) ps)) x 900 k) t)]))
   else .lam x k t (put b (bH ⟨x,k,t⟩ (aS b) ps))
theorem Bv:put (.con x t) u1=(.con x t):=rfl
theorem EM:put (.var x k t) ps=((oH ⟨x,k,t⟩ ps).getD (.var x k t)):=rfl
theorem EN:put (.app f a) ps=(if ps.isEmpty then .app f a else .app (put f ps) (put a ps)):=rfl
theorem EO:put (.lam x k t b) ps=(if ps.isEmpty then .lam x k t b else
   if jz ⟨x,k,t⟩ (bH ⟨x,k,t⟩ (aS b) ps) then
    .lam x (iF (agJ (aS b) (bH ⟨x,k,t⟩ (aS b) ps)) x 900 k) t
     (put b (bH ⟨x,k,t⟩ (aS b) ps++[(⟨x,k,t⟩,.var x (iF (agJ (aS b) (bH ⟨x,k,t⟩ (aS b) ps)) x 900 k) t)]))
   else .lam x k t (put b (bH ⟨x,k,t⟩ (aS b) ps))):=rfl
noncomputable def Tm.pk:Tm->Nat
 |.var _ k _=>k
 |.con _ _=>0
 |.app f a=>max f.pk a.pk
 |.lam _ k _ b=>max k b.pk
theorem Wx:Tm.pk (.var u1 k u2)=(k):=rfl
theorem Oy:Tm.pk (.app f a)=(max f.pk a.pk):=rfl
theorem Oz:Tm.pk (.lam u1 k u2 b)=(max k b.pk):=rfl
theorem C3:∀(t:Tm) (b o:List Vr) (M:Nat),t.pk<=M->(∀v∈o,v.k<=M)->∀v∈bq t b o,v.k<=M:=by
 intro t;induction t with
 |var x k t=>
  intro b o M h ho v hv
  (first|rw[LO] at hv|rw[Iq] at hv|rw[Ir] at hv|rw[LP] at hv)
  split at hv
  .exact ho v hv
  .rcases bX.mp hv with q|q
   .exact ho v q
   .simp at q;subst q;exact h
 |con x t=>intro b o M h ho v hv;exact ho v hv
 |app f a iX gd=>intro b o M h ho v hv;simp only[Oy] at h;exact gd b _ M (by exact pM h) (iX b o M (by exact rM h) ho) v hv
 |lam x k t e ih=>intro b o M h ho v hv;simp only[Oz] at h;exact ih _ o M (by exact pM h) ho v hv
theorem IG(x:Bs)(k:Nat):∀l:List Nx,((l.map lu).any λ y=>PyData.eqv y (.str (nm x k)))=o8 x k l
 |[]=>rfl
 |w::r=>by
  have:=IG x k r
  simp only[List.map_cons,List.any_cons,o8,lu,dZ,CT] at this ⊢;rw[this]
theorem IH(x:Bs)(k:Nat)(l:List Nx):d0 .mem (.str (nm x k)) (.list (l.map lu))=some (.bool (o8 x k l)):=by
 refine cN _ _ _ ?_;show rU (.str (nm x k)) (.list (l.map lu))=_;rw[sH,if_pos (.inl (by simp[wQ])),IG]
def Wy(c:agq->ae->Res V)(body:agq->ae->XR)(fr:agq)(σ:ae):XR:=agC c body 1000 fr σ
theorem QS{fr:agq}{σ:ae}(c:E)(b:List S):exS G C (.yv c b) fr σ=Wy (evE G C c) (aD G C b) fr σ:=by rw[hH];rfl
theorem add_str{a b:Str}(h:a.length+b.length<=lim):agK .add (.str a) (.str b)=some (.str (a++b)):=by rw[Gd,if_pos h]
theorem II(x:Bs)(k:Nat):(nm x k).length=k+1:=by
 show(nm x k).cps.size=_;rw[xw];simp;exact Nat.add_comm 1 k
end
theorem ur(n:Nat)(x:Bs)(names:List Nx)(σ:ae)(a0 a1 a2 a3 a4 a5 a6 a7 a9 OA:Option V):∀(f fuel k:Nat),(∃j,j<f/\o8 x (k+j) names=false)->f<fuel->k+f<=2000 ->
  agC (evE G (CF n) (.cmp .mem (.var 10) (.var 8))) (aD G (CF n) [.assign (.var 10) (.bin .add (.var 10) (Qs 9))]) fuel [a0,a1,a2,a3,a4,a5,a6,a7,Dv (.list (names.map lu)),a9,Dv (.str (nm x k)),OA] σ =
   .next [a0,a1,a2,a3,a4,a5,a6,a7,Dv (.list (names.map lu)),a9,Dv (.str (nm x (iF names x f k))),OA] σ
 |0,fuel,k,h,hf,hk=>by obtain⟨j,hj,_⟩:=h;exact rR hj
 |f+1,0,k,h,hf,hk=>by exact rR hf
 |f+1,fuel+1,k,h,hf,hk=>by
  (first|rw[Pb]|rw[Pc])
  have e1:evE G (CF n) (.cmp .mem (.var 10) (.var 8)) [a0,a1,a2,a3,a4,a5,a6,a7,Dv (.list (names.map lu)),a9,Dv (.str (nm x k)),OA] σ=.ok (.d (.bool (o8 x k names))) σ:=gR G (CF n) (.cmp .mem (.var 10) (.var 8)) [a0,a1,a2,a3,a4,a5,a6,a7,Dv (.list (names.map lu)),a9,Dv (.str (nm x k)),OA] σ [.o _] (IH ..);rw[e1];rw[Res.gW,show aP (.d (.bool (o8 x k names)))=some (o8 x k names) from rfl,Res.bx,Res.gW];cases hm:o8 x k names with
  |false=>simp only[Bool.false_eq_true,if_false,QP,QR,hm]
  |true=>
   simp only[if_true,QP,QR,hm];have e2:aD G (CF n) [.assign (.var 10) (.bin .add (.var 10) (Qs 9))] [a0,a1,a2,a3,a4,a5,a6,a7,Dv (.list (names.map lu)),a9,Dv (.str (nm x k)),OA] σ =
     .next [a0,a1,a2,a3,a4,a5,a6,a7,Dv (.list (names.map lu)),a9,Dv (.str (nm x (k+1))),OA] σ:=by
    have hl:(nm x k).length+(st 9).length<=lim:=by
     have:(st 9).length=1:=by decide
     refine bO (II ..) ?_;rw[this];simp only[lim];exact aj (cv (cv (ao (cU k _) hk))) rfl
    exact run G (CF n) [.assign (.var 10) (.bin .add (.var 10) (Qs 9))] [a0,a1,a2,a3,a4,a5,a6,a7,Dv (.list (names.map lu)),a9,Dv (.str (nm x k)),OA] σ [.o _] (add_str hl)
   refine bO (e2 ..) ?_;rw[gZ];refine ur n x names σ a0 a1 a2 a3 a4 a5 a6 a7 a9 OA f fuel (k+1) ?_ (by exact Nh hf) (by exact mG hk);obtain⟨j,hj,hq⟩:=h;induction j with
   |zero=>rw[Nat.add_zero,hm] at hq;exact Bool.noConfusion hq
   |succ j=>exact⟨j,by exact Nh hj,by rw[show k+1+j=k+(j+1) by exact M3];exact hq⟩
theorem zQ{x:Bs}{k M:Nat}{l:List Nx}(h:∀n∈l,n.2<=M)(hk:M<k):o8 x k l=false:=by
 simp only[o8,List.any_eq_false,dN,beq_iff_eq,not_and];intro n hn _ q;have:=h n hn;exact absurd (q▸this) (Nat.not_le_of_lt hk)
theorem wh(names:List Nx)(x:Bs)(M:Nat)(hM:∀n∈names,n.2<=M):∀f k,k<=M+1->iF names x f k<=M+1
 |0,k,h=>h
 |f+1,k,h=>by
  (first|rw[QP]|rw[QR])
  split
  .rename_i hm;rcases Nat.lt_or_ge M k with q|q
   .haveI hm:=(zQ hM q)▸hm;exact Bool.noConfusion hm
   .exact wh names x M hM f (k+1) (by exact cv q)
  .exact h
theorem QT(v:Vr)(h:t.dp<=900):d0 .eq (aV v) (.tuple [.str (st 3),.str (nm x k),cI t])=some (.bool (v.eq ⟨x,k,t⟩)):=by
 have hd:=iY ⟨x,k,t⟩;refine cN _ _ _ ?_;show eS .eq (aV v) (aV ⟨x,k,t⟩)=_;rw[oB,if_pos (.inl (by simp only[fj];have:(⟨x,k,t⟩:Vr).t.dp=t.dp:=rfl;exact fK hd h rfl)),xx]
theorem LV(v:Vr)(h:t.dp<=900):d0 .ne (aV v) (.tuple [.str (st 3),.str (nm x k),cI t])=some (.bool (!(v.eq ⟨x,k,t⟩))):=by
 have hd:=iY ⟨x,k,t⟩;refine cN _ _ _ ?_;show eS .ne (aV v) (aV ⟨x,k,t⟩)=_;rw[vB,if_pos (.inl (by simp only[fj];have:(⟨x,k,t⟩:Vr).t.dp=t.dp:=rfl;exact fK hd h rfl)),xx]
theorem C4(v:Vr)(l:List Vr)(h:v.t.dp<=900):d0 .mem (aV v) (.list (l.map aV))=some (.bool (bt v l)):=by
 obtain⟨x,k,t⟩:=v;exact xB l h
theorem C5(a b:Int):d0 .eq (.int a) (.int b)=some (.bool (a==b)):=by
 refine cN _ _ _ ?_;rw[oB,if_pos (.inl (by simp[Xl])),Bu]
theorem LW(v:Vr):dD (aV v) (.int 1)=some (lu (kR v)):=rfl
theorem uu(n:Nat)(it:E)(l:List Vr)(fr:agq)(σ:ae)(nG:fr.length=12)(hl:l.length<=100000)(hit:evE G (CF n) it fr σ=.ok (.d (.list (l.map aV))) σ):evE G (CF n) (.comp 2 (Qx 13 1) (.var 13) it []) fr σ=.ok (.d (.list ((l.map kR).map lu))) σ:=by
 rw[o7,hit,zG];have XD:(fr++List.replicate 2 (none:Option V)).length=14:=by simp[nG]
 rw[nd (n:=2) aV (λ v=>some (lu (kR v))) (items:=l) rfl (by simp only[lim];exact aj hl rfl)]
 .congr 3;induction l with
  |nil=>rfl
  |cons a l ih=>simp
 .intro v _;rw[LH _ _ _ (by rw[XD];decide)];have hg:((fr++List.replicate 2 none).set 13 (some (V.d (aV v))))[13]?=some (Dv (aV v)):=by
   rw[List.getElem?_set_self (by rw[XD];decide)]
  have hr:evE G (CF n) (Qx 13 1) ((fr++List.replicate 2 none).set 13 (some (V.d (aV v)))) σ=.ok (.d (lu (kR v))) σ:=by
   simp only[Wf,iL,hg,cH,Wc,Ou,zG,Ot,LW,uk]
  exact congrArg (λ r:Res V=>r.bind λ r σ=>match r with|.d z=>.ok (some z) σ | .loc _=>.stuck) hr
structure St where
 ps:List Pr
 cg:Bool
 nx:List Nx
 w:Option V
 s:Option V
 ar:Option V
def nf(v:Vr)(here:List Vr)(a:St)(p:Pr):St:=
 if !(p.1.eq v)&&bt p.1 here then⟨a.ps++[p],if bt v (aS p.2) then true else a.cg,a.nx++(aS p.2).map kR,Dv (aV p.1),Dv (ay p.2),Dv (.list ((aS p.2).map aV))⟩
 else{ a with w:=Dv (aV p.1),s:=Dv (ay p.2)}
theorem uv(v:Vr)(here:List Vr):∀(ps:List Pr) (a:St),(ps.foldl (nf v here) a).ps=a.ps++bH v here ps/\(ps.foldl (nf v here) a).cg=(a.cg || jz v (bH v here ps))/\(ps.foldl (nf v here) a).nx=a.nx++(bH v here ps).flatMap λ p=>(aS p.2).map kR
 |[],a=>by simp[bH,jz]
 |p::ps,a=>by
  obtain⟨h1,h2,h3⟩:=uv v here ps (nf v here a p);rw[List.foldl_cons,h1,h2,h3];unfold nf bH jz;cases hc:(!(p.1.eq v)&&bt p.1 here) with
  |false=>simp[hc]
  |true=>
   simp only[hc,if_true,List.filter_cons,List.any_cons,List.flatMap_cons,List.append_assoc,List.cons_append,List.nil_append,and_true,true_and];cases bt v (aS p.2)<;>cases a.cg<;>simp
structure Bd(D:Nat)(ps:List Pr)(t:Tm)(n M:Nat):Prop where
 td:t.dp<=D
 hD:D<=300
 fuel:t.dp+D+6<=n
 sz:t.sz<=1000
 pd:∀p∈ps,p.2.dp<=D/\p.1.t.dp<=D/\p.2.sz<=100/\p.2.pk<=M
 len:ps.length+t.dp<=400
 pk:t.pk<=M
 hM:M+t.dp<=800
theorem AE.more(h:AE σ pv xs)(c:agS):AE (σ++[c]) pv xs:=by
 induction h with
 |list=>exact .list _
 |tuple=>exact .tuple _
 |loc h=>exact .loc (by rw[i0 (gi.mp h).1];exact h)
theorem uw(v:Vr):∀ps:List Pr,ps.findSome? (λ p=>if p.1.eq v then some (ay p.2) else none)=(oH v ps).map ay
 |[]=>rfl
 |(w,s)::r=>by
  (rewrite[List.findSome?_cons];(first|rw[Wv]|rw[Ww]))
  cases h:w.eq v with
  |true=>simp[]
  |false=>simp[];exact uw v r
theorem wi(h:p∈bH v here ps):p∈ps:=(List.mem_filter.mp h).1
theorem EP(v:Vr)(here:List Vr)(ps:List Pr):(bH v here ps).length<=ps.length:=lY ..
def bP:List S:=[.ite (.and [(.cmp .ne (.var 7) (.var 2)),(.cmp .mem (.var 7) (.var 4))]) [.app 5 (.tup [(.var 7),(.var 3)]),.assign (.var 9) (.call 3 [(.var 3)]),.ite (.cmp .mem (.var 2) (.var 9)) [.assign (.var 6) (.con (.bool true))] [],.assign (.var 8) (.bin .add (.var 8) (.comp 2 (Qx 13 1) (.var 13) (.var 9) []))] []]
abbrev Fp(pv:V)(lm:PyData)(v:Vr)(here:List Vr)(l:Nat)(s:Option V)(cg:Bool)(w:Option V)(nx:List Nx)(ar:Option V):agq:=[some pv,Dv lm,Dv (aV v),s,Dv (.list (here.map aV)),some (.loc l),Dv (.bool cg),w,Dv (.list (nx.map lu)),ar,none,none]
abbrev Sp(σ:ae)(ps:List Pr):ae:=σ++[.lst (ps.map sV)]
abbrev FA(pv:V)(lm:PyData)(v:Vr)(here:List Vr)(l:Nat)(a:St):agq:=Fp pv lm v here l a.s a.cg a.w a.nx a.ar
theorem IJ(n:Nat)(pv:V)(lm:PyData)(v:Vr)(here:List Vr)(σ:ae)(ht:v.t.dp<=300)(a:St)(w:Vr)(s:Tm)(hd:s.dp<=300)(hn:s.dp+3<=n)(Zy:w.t.dp<=300)(qS:s.sz<=100)(h1:a.ps.length<=400)(h2:a.nx.length<=50000):aD G (CF n) bP (Fp pv lm v here σ.length (Dv (ay s)) a.cg (Dv (aV w)) a.nx a.ar) (Sp σ a.ps)=.next (FA pv lm v here σ.length (nf v here a (w,s))) (Sp σ (nf v here a (w,s)).ps):=by
 have Bt:=gB s [] [];simp only[List.length_nil,Nat.zero_add] at Bt;have Bw:(aS s).length<=100:=ao Bt qS;have kS:evE G (CF n) (.and [(.cmp .ne (.var 7) (.var 2)),(.cmp .mem (.var 7) (.var 4))]) (Fp pv lm v here σ.length (Dv (ay s)) a.cg (Dv (aV w)) a.nx a.ar) (Sp σ a.ps)=.ok (.d (.bool (!(w.eq v)&&bt w here))) (Sp σ a.ps):=by
  rw[←Bool.and_true (bt w here)];exact zJ (congrArg (Bq _) (LV w (x:=v.x) (k:=v.k) (t:=v.t) (by exact aj ht rfl))) (zJ (congrArg (Bq _) (C4 w here (by exact aj Zy rfl))) rfl)
 unfold nf;generalize(!(w.eq v)&&bt w here)=b at kS ⊢;induction b with
 |false=>exact run G (CF n) bP (Fp pv lm v here σ.length (Dv (ay s)) a.cg (Dv (aV w)) a.nx a.ar) (Sp σ a.ps) [.w _] kS
 |true=>
  have ha:=(m9 (C:=CF n) (fr:=Fp pv lm v here σ.length (Dv (ay s)) a.cg (Dv (aV w)) a.nx a.ar) (i:=5) (e:=.tup [(.var 7),(.var 3)]) rfl rfl (dU σ _) (show(a.ps.map sV).length<=lim by simp[lim];exact aj h1 rfl)).trans (congrArg (XR.next _) ((jy ..).trans (congrArg (λ l=>σ++[agS.lst l]) (List.map_append (f:=sV) (l₁:=a.ps) (l₂:=[(w,s)])).symm)));have ji:=nN s n (Sp σ (a.ps++[(w,s)])) (by exact hn) (by exact aj hd rfl) (by exact aj qS rfl);have c3:=xB (x:=v.x) (k:=v.k) (t:=v.t) (aS s) (by exact aj ht rfl);have hb:=(ij (show(a.nx.map lu).length+(((aS s).map kR).map lu).length<=lim by simp[lim];exact gI h2 Bw rfl)).trans (congrArg (λ l=>some (PyData.list l)) (List.map_append (f:=lu)).symm);have Wz:=λ cg=>uu n (.var 9) (aS s) (Fp pv lm v here σ.length (Dv (ay s)) cg (Dv (aV w)) a.nx (Dv (.list ((aS s).map aV)))) (Sp σ (a.ps++[(w,s)])) rfl (by exact aj Bw rfl) rfl;dsimp only;generalize bt ⟨v.x,v.k,v.t⟩ (aS s)=c at c3 ⊢;induction c with
  |true=>exact run G (CF n) bP (Fp pv lm v here σ.length (Dv (ay s)) a.cg (Dv (aV w)) a.nx a.ar) (Sp σ a.ps) [.w _,.x _,.r _,.o _,.r _,.o _] kS ha ji c3 (Wz true) hb
  |false=>exact run G (CF n) bP (Fp pv lm v here σ.length (Dv (ay s)) a.cg (Dv (aV w)) a.nx a.ar) (Sp σ a.ps) [.w _,.x _,.r _,.o _,.r _,.o _] kS ha ji c3 (Wz a.cg) hb
theorem IK(n:Nat)(pv:V)(lm:PyData)(v:Vr)(here:List Vr)(ps:List Pr)(σ:ae)(D M:Nat)(ht:v.t.dp<=D)(hD:D<=300)(hn:D+3<=n)(A8:∀p∈ps,p.2.dp<=D/\p.1.t.dp<=D/\p.2.sz<=100/\p.2.pk<=M)(agw:ps.length<=400)(hh:here.length<=1000)(hi:AE σ pv (ps.map sV)):∃w s ar,mh (aD G (CF n) bP) (.tup [(.var 7),(.var 3)]) (Fp pv lm v here σ.length none false none (here.map kR) none) pv (Sp σ []) =
  .next (Fp pv lm v here σ.length s (jz v (bH v here ps)) w (agJ here (bH v here ps)) ar) (Sp σ (bH v here ps)):=by
 have key:=nc (body:=aD G (CF n) bP) (t:=.tup [(.var 7),(.var 3)]) sV (FA pv lm v here σ.length) (λ a:St=>Sp σ a.ps) (nf v here) (λ a r=>a.ps.length+r.length<=400/\(∀p∈r,p∈ps)/\a.nx.length+100 * r.length<=50000) (pv:=pv) (items:=ps) (a:=⟨[],false,here.map kR,none,none,none⟩) (hi.more (.lst [])) ?_ ?_ ⟨by simp;exact agw,λ _ h=>h,by simp;exact aj (Nat.add_le_add hh (mE 100 agw)) rfl⟩
 .obtain⟨f1,f2,f3⟩:=uv v here ps ⟨[],false,here.map kR,none,none,none⟩;generalize ps.foldl (nf v here) ⟨[],false,here.map kR,none,none,none⟩=A at key f1 f2 f3;refine⟨A.w,A.s,A.ar,key.trans ?_⟩;rw[f1,FA,f2,f3];rfl
 .intro k' all h1 h2 b r _;subst h2;have hk:k'<σ.length:=by
   generalize hx:ps.map sV=xs at hi;cases hi with
   |loc h=>exact(gi.mp h).1
  rw[i0 hk] at h1 ⊢;exact h1
 .rintro a p r ⟨XE,Z9,XF⟩;have hp:=A8 p (Z9 p dC);obtain⟨w,s⟩:=p;dsimp only at hp;simp only[List.length_cons] at XE XF;refine⟨Fp pv lm v here σ.length (Dv (ay s)) a.cg (Dv (aV w)) a.nx a.ar,rfl,IJ n pv lm v here σ (by exact s8 ht hD) a w s (by have:=hp.1;exact s8 this hD) (by have:=hp.1;exact TV hp hn) (by have:=hp.2.1;exact s8 this hD) hp.2.2.1 (by exact eF XE rfl) (by exact eF XF rfl),?_⟩;have Bt:=gB s [] [];simp only[List.length_nil,Nat.zero_add] at Bt;have Bw:(aS s).length<=100:=ao Bt hp.2.2.1;unfold nf;split
  .exact⟨by simp only[cO,List.length_cons,List.length_nil];exact mG XE,λ p hp=>Z9 p (d8 _ hp),by simp only[cO,bR];exact FJ XF Bw⟩
  .exact⟨by dsimp only;exact yr XE,λ p hp=>Z9 p (d8 _ hp),by dsimp only;exact TU XF⟩
theorem ER(ps:List Pr):((((ps.map sV).length:Nat):Int)==0)=ps.isEmpty:=by
 induction ps with
 |nil=>rfl
 |cons p r=>simp;exact λ e=>Nat.succ_ne_zero r.length (Int.ofNat.inj e)
theorem IL{here:List Vr}{inner:List Pr}{M:Nat}(h1:∀v∈here,v.k<=M)(h2:∀p∈inner,p.2.pk<=M):∀n∈agJ here inner,n.2<=M:=by
 intro n hn;rcases bX.mp hn with q|q
 .obtain⟨v,hv,rfl⟩:=gm.mp q;exact h1 v hv
 .obtain⟨p,hp,hq⟩:=List.mem_flatMap.mp q;obtain⟨v,hv,rfl⟩:=gm.mp hq;exact C3 p.2 [] [] M (h2 p hp) (λ _ h=>nomatch h) v hv
theorem aht{σ:ae}{pv:V}{ps:List Pr}(hi:AE σ pv (ps.map sV))(hl:ps.length<=400):ou gr pv σ=.ok (.d (.int (ps.map sV).length)) σ:=hi.len (by simp[lim];exact aj hl rfl)
theorem LX(ps:List Pr):d0 .eq (.int (ps.map sV).length) (.int 0)=some (.bool ps.isEmpty):=(C5 ..).trans (by rw[ER])
noncomputable def bL:List S:=[.ite (.cmp .eq (.var 2) (.var 1)) [.ret (.var 3)] []]
theorem LY(n:Nat)(x:Bs)(k:Nat)(t:Ty)(σ:ae)(pv:V)(ps:List Pr)(ht:t.dp<=300)(hl:ps.length<=400)(hi:AE σ pv (ps.map sV)):CF (n+1) 6 [pv,.d (ay (.var x k t))] σ=.ok (.d (ay (put (.var x k t) ps))) σ:=by
 have h0:=aht hi hl;have hz:=LX ps;generalize he:ps.isEmpty=e at hz;induction e with
 |true=>
  obtain rfl:=List.isEmpty_iff.mp he;exact cr n 6 [pv,.d (ay (.var x k t))] σ [.r _,.o _] h0 hz (ah σ)
 |false=>
  refine Exists.elim (uq (body:=aD G (CF n) bL) (t:=.tup [.var 2,.var 3]) (σ:=σ) sV (λ p=>if p.1.eq ⟨x,k,t⟩ then some (ay p.2) else none)
   (λ fr=>∃a b,fr=[some pv,Dv (ay (.var x k t)),a,b,none,none,none,none,none,none,none,none]) hi ?_ (fr:=[some pv,Dv (ay (.var x k t)),none,none,none,none,none,none,none,none,none,none]) ⟨none,none,rfl⟩) ?_
  .rintro fr p ⟨a,b,rfl⟩;have c1:=QT p.1 (x:=x) (k:=k) (t:=t) (by exact aj ht rfl);refine⟨[some pv,Dv (ay (.var x k t)),Dv (aV p.1),Dv (ay p.2),none,none,none,none,none,none,none,none],rfl,?_⟩;generalize p.1.eq ⟨x,k,t⟩=q at c1 ⊢;induction q with
   |true=>exact run G (CF n) bL [some pv,Dv (ay (.var x k t)),Dv (aV p.1),Dv (ay p.2),none,none,none,none,none,none,none,none] σ [.o _] c1
   |false=>exact⟨_,⟨Dv (aV p.1),Dv (ay p.2),rfl⟩,run G (CF n) bL [some pv,Dv (ay (.var x k t)),Dv (aV p.1),Dv (ay p.2),none,none,none,none,none,none,none,none] σ [.o _] c1⟩
  .rintro aR ⟨⟨a,b,rfl⟩,hk⟩;rw[uw] at hk
   (first|rw[Bv]|rw[EM]|rw[EN]|rw[EO])
   generalize oH ⟨x,k,t⟩ ps=o at hk ⊢;induction o with
   |some s=>exact cr n 6 [pv,.d (ay (.var x k t))] σ [.r _,.o _,.x _] h0 hz hk (ah σ)
   |none=>exact cr n 6 [pv,.d (ay (.var x k t))] σ [.r _,.o _,.x _] h0 hz hk (ah σ)
theorem IM:∀(t:Tm) (D n:Nat) (σ:ae) (pv:V) (ps:List Pr) (M:Nat),Bd D ps t n M->AE σ pv (ps.map sV)->CF n 6 [pv,.d (ay t)] σ=.ok (.d (ay (put t ps))) σ:=by
 intro t;induction t with
 |con x t=>
  intro D n σ pv ps M B hi;have agw:=B.len;have hf:=B.fuel;obtain⟨n,rfl⟩:=aN (n:=n) (k:=0) (by exact gK hf rfl);have h0:=aht hi (by exact eF agw rfl);have hz:=LX ps;generalize ps.isEmpty=e at hz;induction e<;>exact cr n 6 [pv,.d (ay (.con x t))] σ [.r _,.o _] h0 hz (ah σ)
 |var x k t=>
  intro D n σ pv ps M B hi;have agw:=B.len;have hf:=B.fuel;have ES:=B.td;have hD:=B.hD;simp only[lM] at agw hf ES;obtain⟨n,rfl⟩:=aN (n:=n) (k:=0) (by exact gK hf rfl);exact LY n x k t σ pv ps (by exact s8 ES hD) (by exact eF agw rfl) hi
 |app f a iX gd=>
  intro D n σ pv ps M B hi;have agw:=B.len;have hf:=B.fuel;have ES:=B.td;have hD:=B.hD;have IQ:=B.pk;have hM:=B.hM;have qS:=B.sz;simp only[fx,Oy,Iu] at agw hf ES IQ hM qS;obtain⟨n,rfl⟩:=aN (n:=n) (k:=0) (by exact gK hf rfl);have h0:=aht hi (by exact eF agw rfl);have hz:=LX ps;have h1:=iX D n σ pv ps M ⟨by exact g9 ES,hD,by exact So hf,by exact eF qS rfl,B.pd,by exact BY agw,by exact rM IQ,by exact BY hM⟩ hi;have h2:=gd D n σ pv ps M ⟨by exact fm ES,hD,by exact BX hf,by exact SH qS rfl,B.pd,by exact sZ agw,by exact pM IQ,by exact sZ hM⟩ hi
  (first|rw[Bv]|rw[EM]|rw[EN]|rw[EO])
  generalize ps.isEmpty=e at hz ⊢;induction e with
  |true=>exact cr n 6 [pv,.d (ay (.app f a))] σ [.r _,.o _] h0 hz (ah σ)
  |false=>exact cr n 6 [pv,.d (ay (.app f a))] σ [.r _,.o _,.r _,.r _] h0 hz h1 h2 (ah σ)
 |lam x k t b ih=>
  intro D n σ pv ps M B hi;have agw:=B.len;have hf:=B.fuel;have ES:=B.td;have hD:=B.hD;have IQ:=B.pk;have hM:=B.hM;have qS:=B.sz;simp only[fy,Oz,Ox] at agw hf ES IQ hM qS;obtain⟨n,rfl⟩:=aN (n:=n) (k:=0) (by exact gK hf rfl);have h0:=aht hi (by exact eF agw rfl);have hz:=LX ps;have ji:=nN b n σ (by exact SF hf) (by exact SD hM rfl) (by exact aj qS rfl);have Bt:=gB b [] [];simp only[List.length_nil,Nat.zero_add] at Bt;have Bw:(aS b).length<=1000:=ao Bt qS;have Wz:=uu n (.var 4) (aS b) [some pv,Dv (ay (.lam x k t b)),Dv (aV ⟨x,k,t⟩),none,Dv (.list ((aS b).map aV)),some (.loc σ.length),Dv (.bool false),none,none,none,none,none] (Sp σ []) rfl (by exact aj Bw rfl) rfl;obtain⟨w,s,ar,wj⟩:=IK n pv (ay (.lam x k t b)) ⟨x,k,t⟩ (aS b) ps σ D M (by show t.dp<=D;exact g9 ES) hD (by exact mD (ao (Nat.add_le_add (Nat.le_add_left D _) (dB (rfl:Nat.ble 4 6=true))) hf)) B.pd (by exact eF agw rfl) Bw hi;have C6:=EP ⟨x,k,t⟩ (aS b) ps;have LZ:∀p∈bH ⟨x,k,t⟩ (aS b) ps,p.2.dp<=D/\p.1.t.dp<=D/\p.2.sz<=100/\p.2.pk<=M:=λ p hp=>B.pd p (wi hp)
  (first|rw[Bv]|rw[EM]|rw[EN]|rw[EO])
  generalize ps.isEmpty=e at hz ⊢;generalize bH ⟨x,k,t⟩ (aS b) ps=inner at wj C6 LZ ⊢;induction e with
  |true=>exact cr n 6 [pv,.d (ay (.lam x k t b))] σ [.r _,.o _] h0 hz (ah σ)
  |false=>
   rw[if_neg Bool.false_ne_true];generalize jz ⟨x,k,t⟩ inner=c at wj ⊢;induction c with
   |false=>
    have h3:=ih D n (Sp σ inner) (.loc σ.length) inner M ⟨by exact fm ES,hD,by exact BX hf,by exact qS,LZ,by exact SA C6 agw,by exact pM IQ,by exact sZ hM⟩ (.loc (dU σ _));exact cr n 6 [pv,.d (ay (.lam x k t b))] σ [.r _,.o _,.r _,.r _,.x _,.r _] h0 hz ji Wz wj h3 (nL ..)
   |true=>
    have XA:=IL (here:=aS b) (inner:=inner) (M:=M) (C3 b [] [] M (by exact pM IQ) λ _ h=>nomatch h) λ p hp=>(LZ p hp).2.2.2;have hfk:=wh (agJ (aS b) inner) x M XA 900 k (by exact Sl IQ);have nG:∃j,j<900/\o8 x (k+j) (agJ (aS b) inner)=false:=⟨M+1 - k,by exact Sw hM,zQ XA (by exact Nat.lt_of_lt_of_eq (Nat.lt_succ_self M) (Nat.add_sub_of_le (eR (rM IQ))).symm)⟩;have hwh:=(QS ..).trans (ur n x (agJ (aS b) inner) (Sp σ inner) (some pv) (Dv (ay (.lam x k t b))) (Dv (aV ⟨x,k,t⟩)) s (Dv (.list ((aS b).map aV))) (some (.loc σ.length)) (Dv (.bool true)) w ar none 900 1000 k nG (by decide) (by exact Sx IQ hM));refine bO (if_pos rfl ..) ?_;generalize iF (agJ (aS b) inner) x 900 k=k' at hfk hwh ⊢;have ha:=(m9 (C:=CF n) (fr:=[some pv,Dv (ay (.lam x k t b)),Dv (aV ⟨x,k,t⟩),s,Dv (.list ((aS b).map aV)),some (.loc σ.length),Dv (.bool true),w,some (.d (.list ((agJ (aS b) inner).map lu))),ar,Dv (.str (nm x k')),Dv (aV ⟨x,k',t⟩)]) (i:=5) (e:=.tup [(.var 2),(.var 11)]) rfl rfl (dU σ _) (show(inner.map sV).length<=lim by simp[lim];exact ao C6 (eF agw rfl))).trans (congrArg (XR.next _) ((jy ..).trans (congrArg (λ l=>σ++[agS.lst l]) (List.map_append (f:=sV) (l₁:=inner) (l₂:=[((⟨x,k,t⟩:Vr),Tm.var x k' t)])).symm)));have h3:=ih D n (Sp σ (inner++[((⟨x,k,t⟩:Vr),Tm.var x k' t)])) (.loc σ.length) (inner++[((⟨x,k,t⟩:Vr),Tm.var x k' t)]) (M+1) ⟨by exact fm ES,hD,by exact BX hf,by exact qS,?_,by simp;exact Sz C6 agw,by exact Sn IQ,by exact BZ hM⟩ (.loc (dU σ _))
    .exact cr n 6 [pv,.d (ay (.lam x k t b))] σ [.r _,.o _,.r _,.r _,.x _,.x _,.x _,.r _] h0 hz ji Wz wj hwh ha h3 (nL ..)
    .intro p hp;rcases bX.mp hp with q|q
     .have:=LZ p q;exact⟨this.1,this.2.1,this.2.2.1,by exact eR this.2.2.2⟩
     .obtain rfl:=fW.mp q;simp only[lM,It,Wx];exact⟨by exact g9 ES,by exact g9 ES,by exact lZ rfl,by exact hfk⟩
theorem sb{body:agq->ae->XR}{t:Tg}{σ:ae}{β:Type}(enc:β->PyData)(q:β->Bool)(Fp:agq->Prop):∀(items:List β) (fr:agq),(∀fr x,x∈items->Fp fr->∃cQ,asg σ t (.d (enc x)) fr=some cQ/\(if q x then ∃hG,Fp hG/\body cQ σ=.next hG σ else body cQ σ=.err σ))->Fp fr ->
  ∃aR,Fp aR/\bl body t (items.map enc) fr σ=if items.all q then .next aR σ else .err σ
 |[],fr,_,h=>⟨fr,h,rfl⟩
 |x::xs,fr,dW,h=>by
  obtain⟨cQ,h1,h2⟩:=dW fr x dC h;rw[List.map_cons,sU,h1,nK,List.all_cons];cases hp:q x with
  |false=>rw[hp] at h2;simp only[Bool.false_eq_true,if_false] at h2;rw[h2];exact⟨fr,h,rfl⟩
  |true=>
   rw[hp] at h2;simp only[if_true] at h2;obtain⟨hG,h3,h4⟩:=h2;obtain⟨aR,h5,h6⟩:=sb enc q Fp xs hG (λ fr x hx=>dW fr x (d8 _ hx)) h3;exact⟨aR,h5,by rw[h4,gZ];simpa using h6⟩
theorem rl{body:agq->ae->XR}{t:Tg}{σ:ae}{β:Type}(enc:β->PyData)(q:β->Bool)(Fp:agq->Prop){d:PyData}{items:List β}(hd:agt d=some (items.map enc)){fr:agq}(nG:Fp fr)(dW:∀fr x,x∈items->Fp fr->∃cQ,asg σ t (.d (enc x)) fr=some cQ/\(if q x then ∃hG,Fp hG/\body cQ σ=.next hG σ else body cQ σ=.err σ)):∃aR,Fp aR/\mh body t fr (.d d) σ=if items.all q then .next aR σ else .err σ:=by
 have:mh body t fr (.d d) σ=bl body t (items.map enc) fr σ:=by unfold mh;dsimp only;refine bO (hd ..) ?_;rfl
 refine bO (this ..) ?_;exact sb enc q Fp items fr dW nG
def iq(p:Pr):Bool:=match ags p.2 with|some ty=>ty.eq p.1.t|none=>false
def agR(ps:List Pr)(t:Tm):Option Tm:=if ps.all iq then some (put t ps) else none
def ahu(σ:ae):Option Tm->Res V
 |some t=>.ok (.d (ay t)) σ
 |none=>.err σ
theorem IS(h:agt d=some xs)(hl:xs.length<=lim):jJ d=some (.list xs):=by
 unfold jJ;rw[h];simp[hl]
theorem ux{xs:List PyData}(h:agt d=some xs)(hl:xs.length<=lim):gX d=some (.tuple xs):=by
 unfold gX;rw[h];simp[hl]
def bI:List S:=[.ite (.cmp .ne (.call 1 [(.var 3)]) (Qx 2 2)) [.raise] []]
theorem zR(D n:Nat)(σ:ae)(ps:List Pr)(t:Tm)(M:Nat)(B:Bd D ps t n M)(hn:t.dp+D+8<=n)(d:PyData)(hd:agt d=some (ps.map sV)):CF n 7 [.d d,.d (ay t)] σ=ahu σ (agR ps t):=by
 have agw:=B.len;have hD:=B.hD;obtain⟨n,rfl⟩:=aN (n:=n) (k:=0) (by exact gK hn rfl);refine Exists.elim (rl (body:=aD G (CF n) bI) (t:=.tup [.var 2,.var 3]) (σ:=σ) sV iq
  (λ fr=>∃a b,fr=[Dv d,Dv (ay t),a,b]) hd (fr:=[Dv d,Dv (ay t),none,none]) ⟨none,none,rfl⟩ ?_) ?_
 .rintro fr p hp ⟨a,b,rfl⟩;have hb:=B.pd p hp;refine⟨[Dv d,Dv (ay t),Dv (aV p.1),Dv (ay p.2)],rfl,?_⟩;have h1:=agT p.2 n σ (by have:=hb.1;exact TX this hn) (by have:=hb.1;exact rQ this hD rfl);have AD:∀{ty},ags p.2=some ty->ty.dp<=p.2.dp:=rk;unfold iq;generalize ags p.2=o at h1 AD ⊢;induction o with
  |none=>exact run G (CF n) bI [Dv d,Dv (ay t),Dv (aV p.1),Dv (ay p.2)] σ [.r _] h1
  |some ty=>
   have hc:d0 .ne (cI ty) (cI p.1.t)=some (.bool (!(ty.eq p.1.t))):=cN _ _ _ (wc (by have:=hb.1;have:=AD rfl;with_reducible exact TS this ‹_› hD rfl));show if ty.eq p.1.t=true then _ else _
   generalize ty.eq p.1.t=q at hc ⊢;induction q with
   |true=>exact⟨_,⟨Dv (aV p.1),Dv (ay p.2),rfl⟩,run G (CF n) bI [Dv d,Dv (ay t),Dv (aV p.1),Dv (ay p.2)] σ [.r _,.o _] h1 hc⟩
   |false=>exact run G (CF n) bI [Dv d,Dv (ay t),Dv (aV p.1),Dv (ay p.2)] σ [.r _,.o _] h1 hc
 .rintro aR ⟨⟨a,b,rfl⟩,hk⟩;unfold agR;generalize ps.all iq=q at hk ⊢;induction q with
  |false=>exact cr n 7 [.d d,.d (ay t)] σ [.x _] hk (ah σ)
  |true=>exact cr n 7 [.d d,.d (ay t)] σ [.x _,.o _,.r _] hk (IS hd (show(ps.map sV).length<=lim by simp[lim];exact eF agw rfl)) (IM t D n σ (.d (.list (ps.map sV))) ps M ⟨B.td,B.hD,by exact kE hn rfl,B.sz,B.pd,B.len,B.pk,B.hM⟩ (.list _)) (ah σ)
noncomputable def eqT(s:Ty)(a b:Tm):Tm:=.app (.app (.con .eq (.fn s (.fn s .bool))) a) b
theorem lP(n:Nat)(σ:ae)(a b:Tm)(hn:a.dp+3<=n)(hd:a.dp<=800):CF n 8 [.d (ay a),.d (ay b)] σ=ahu σ ((ags a).map λ s=>eqT s a b):=by
 obtain⟨n,rfl⟩:=aN hn;obtain⟨n,rfl⟩:=aN (n:=n) (k:=0) (by exact gn hn rfl);have h1:=agT a (n+1) σ (by exact kE hn rfl) hd;generalize ags a=o at h1 ⊢;induction o with
 |none=>exact cr (n+1) 8 [.d (ay a),.d (ay b)] σ [.r _] h1 (ah σ)
 |some ty=>exact cr (n+1) 8 [.d (ay a),.d (ay b)] σ [.r _,.r _,.r _] h1 (m7 n ty .bool σ) (m7 n ty (.fn ty .bool) σ) (ah σ)
noncomputable def dn:Tm->Option (Tm×Tm)
 |.app (.app (.con x _) a) b=>if x.same .eq then some (a,b) else none
 |_=>none
theorem zS(n:Nat)(σ:ae)(t:Tm):CF (n+1) 9 [.d (ay t)] σ=.ok (.d (.bool (dn t).isSome)) σ:=by
 cases t with
 |var x k t=>exact cr n 9 [.d (ay (.var x k t))] σ [] (ah σ)
 |con x t=>exact cr n 9 [.d (ay (.con x t))] σ [] (ah σ)
 |lam x k t b=>exact cr n 9 [.d (ay (.lam x k t b))] σ [] (ah σ)
 |app f b=>
  cases f with
  |var x k t=>exact cr n 9 [.d (ay (.app (.var x k t) b))] σ [] (ah σ)
  |con x t=>exact cr n 9 [.d (ay (.app (.con x t) b))] σ [] (ah σ)
  |lam x k t c=>exact cr n 9 [.d (ay (.app (.lam x k t c) b))] σ [] (ah σ)
  |app g a=>
   induction g with
   |var x k t=>exact cr n 9 [.d (ay (.app (.app (.var x k t) a) b))] σ [] (ah σ)
   |lam x k t c=>exact cr n 9 [.d (ay (.app (.app (.lam x k t c) a) b))] σ [] (ah σ)
   |app g c=>exact cr n 9 [.d (ay (.app (.app (.app g c) a) b))] σ [] (ah σ)
   |con x t=>
    induction x with
    |eq=>exact cr n 9 [.d (ay (.app (.app (.con .eq t) a) b))] σ [] (ah σ)
    |K=>exact cr n 9 [.d (ay (.app (.app (.con .K t) a) b))] σ [] (ah σ)
    |L=>exact cr n 9 [.d (ay (.app (.app (.con .L t) a) b))] σ [] (ah σ)
    |M=>exact cr n 9 [.d (ay (.app (.app (.con .M t) a) b))] σ [] (ah σ)
    |N=>exact cr n 9 [.d (ay (.app (.app (.con .N t) a) b))] σ [] (ah σ)
theorem wk{t:Tm}{ab:Tm×Tm}(h:dn t=some ab):∃x ty,t=.app (.app (.con x ty) ab.1) ab.2:=by
 induction t with
 |app f b=>
  induction f with
  |app g a=>
   induction g with
   |con x ty=>obtain rfl:=bD (Option.ite_none_right_eq_some.mp h).2;exact⟨x,ty,rfl⟩
   |_=>cases h
  |_=>cases h
 |_=>cases h
def aaa(σ:ae):Option (Tm×Tm)->Res V
 |some q=>.ok (.d (.tuple [ay q.1,ay q.2])) σ
 |none=>.err σ
theorem o9(n:Nat)(σ:ae)(t:Tm):CF (n+2) 10 [.d (ay t)] σ=aaa σ (dn t):=by
 have h1:=zS n σ t;generalize hs:dn t=o at h1 ⊢;induction o with
 |none=>exact cr (n+1) 10 [.d (ay t)] σ [.r _] h1 (ah σ)
 |some ab=>
  obtain⟨x,ty,rfl⟩:=wk hs;exact cr (n+1) 10 [.d (ay (.app (.app (.con x ty) ab.1) ab.2))] σ [.r _] h1 (ah σ)
def agV(p:Tm)(row:List Tm):Bool:=row.any (alike p)
structure Sm(n:Nat)(t:Tm):Prop where
 fuel:t.dp+5<=n
 dp:t.dp<=300
theorem uy(p:Tm):∀row:List Tm,row.findSome? (λ q=>if alike p q then some (PyData.bool true) else none)=if agV p row then some (.bool true) else none
 |[]=>rfl
 |q::r=>by
  rw[List.findSome?_cons,agV,List.any_cons];cases h:alike p q with
  |true=>simp
  |false=>simp only[Bool.false_eq_true,if_false,Bool.false_or];exact uy p r
noncomputable def bM:List S:=[.ite (.call 5 [(.var 0),(.var 2)]) [.ret (.con (.bool true))] []]
theorem Bx(n:Nat)(σ:ae)(p:Tm)(row:List Tm)(pv:V)(hi:AE σ pv (row.map ay))(hp:Sm n p)(hr:∀q∈row,Sm n q):CF n 11 [.d (ay p),pv] σ=.ok (.d (.bool (agV p row))) σ:=by
 have hpf:=hp.fuel;have hpd:=hp.dp;obtain⟨n,rfl⟩:=aN (n:=n) (k:=0) (by exact gK hpf rfl);have hat:row.attach.map (λ q=>ay q.1)=row.map ay:=by rw[List.attach_map_val (f:=ay)]
 refine Exists.elim (uq (body:=aD G (CF n) bM) (t:=.var 2) (σ:=σ) (λ q:{ x // x∈row}=>ay q.1) (λ q=>if alike p q.1 then some (PyData.bool true) else none)
  (λ fr=>∃a,fr=[Dv (ay p),some pv,a]) (items:=row.attach) (by rw[hat];exact hi) ?_ (fr:=[Dv (ay p),some pv,none]) ⟨none,rfl⟩) ?_
 .rintro fr ⟨q,hq⟩ ⟨a,rfl⟩;have hqs:=hr q hq;have h1:=lO p q n σ (by exact kE hpf rfl) (by have:=hqs.fuel;exact kE this rfl) (by exact aj hpd rfl) (by have:=hqs.dp;exact aj this rfl);refine⟨[Dv (ay p),some pv,Dv (ay q)],rfl,?_⟩;dsimp only;generalize alike p q=b at h1 ⊢;induction b with
  |true=>exact run G (CF n) bM [Dv (ay p),some pv,Dv (ay q)] σ [.r _] h1
  |false=>exact⟨_,⟨Dv (ay q),rfl⟩,run G (CF n) bM [Dv (ay p),some pv,Dv (ay q)] σ [.r _] h1⟩
 .rintro aR ⟨⟨a,rfl⟩,hk⟩;have hfs:row.attach.findSome? (λ q=>if alike p q.1 then some (PyData.bool true) else none)=if agV p row then some (.bool true) else none:=by
   have h:=List.findSome?_map (f:=(Subtype.val:{ x // x∈row}->Tm)) (p:=λ q=>if alike p q then some (PyData.bool true) else none) (l:=row.attach);rw[List.attach_map_subtype_val] at h;rw[←uy];exact h.symm
  rw[hfs] at hk;generalize agV p row=b at hk ⊢;induction b<;>exact cr n 11 [.d (ay p),pv] σ [.x _] hk (ah σ)
def eU(a b:List Tm):List Tm:=b.foldl (λ o p=>if agV p o then o else o++[p]) a
def By(i:Nat)(fr:agq)(v:V)(σ:ae):XR:=(Res.of σ (aE σ v)).then λ x σ=>(Res.of σ (agt x)).then λ ds σ=>
   if i<fr.length/\ds.length<=lim then .next (fr.set i (some (.loc σ.length))) (σ++[.lst ds]) else .stuck
theorem L0{G:List PyData}{C:aG}(i:Nat)(a:E):exS G C (.newOf i a) fr σ=kt (By i fr) (evE G C a fr σ):=by rw[fZ];rfl
theorem ET{i:Nat}{fr:agq}{d:PyData}{ds:List PyData}{σ:ae}(hd:agt d=some ds)(hi:i<fr.length)(hl:ds.length<=lim):By i fr (.d d) σ=.next (fr.set i (some (.loc σ.length))) (σ++[.lst ds]):=by
 unfold By;simp only[aE,Res.bx,Res.gW,hd,hi,hl,and_self,if_true]
noncomputable def bJ:List S:=[.ite (.not (.call 11 [(.var 3),(.var 2)])) [.app 2 (.var 3)] []]
abbrev Tj(σ:ae)(o:List Tm):ae:=σ++[.lst (o.map ay)]
theorem EU:∀(bs a:List Tm),(eU a bs).length<=a.length+bs.length:=by
 intro bs;induction bs with
 |nil=>intro a;simp[eU]
 |cons b bs ih=>
  intro a;have:=ih (if agV b a then a else a++[b])
  unfold eU at this ⊢;rw[List.foldl_cons];refine ao this ?_;split<;>simp<;>exact bV (gk ..)
theorem nO(n:Nat)(σ:ae)(as bs:List Tm)(da db:PyData)(ha:agt da=some (as.map ay))(hb:agt db=some (bs.map ay))(PZ:∀q∈as,Sm n q)(mA:∀q∈bs,Sm n q)(hla:as.length+bs.length<=1000)(hn:1<=n):CF (n+1) 12 [.d da,.d db] σ=.ok (.d (.tuple ((eU as bs).map ay))) σ:=by
 have gP:=(L0 (G:=G) (C:=CF n) (fr:=[Dv da,Dv db,none,none]) (σ:=σ) 2 (.var 0)).trans (ET (fr:=[Dv da,Dv db,none,none]) (σ:=σ) ha (by simp) (by simp[lim];exact eF hla rfl));have iM:=nc (body:=aD G (CF n) bJ) (t:=.var 3) ay
  (λ a:List Tm×Option V=>[Dv da,Dv db,some (.loc σ.length),a.2]) (λ a=>Tj σ a.1) (λ a p=>(if agV p a.1 then a.1 else a.1++[p],Dv (ay p)))
  (λ a r=>(∀q∈a.1,Sm n q)/\(∀q∈r,Sm n q)/\a.1.length+r.length<=1000) (pv:=.d db) (items:=bs) (a:=(as,none)) ?_ (λ k all _ h=>nomatch h) ?_ ⟨PZ,mA,hla⟩
 .have key:∀(bs:List Tm) (a:List Tm×Option V),(bs.foldl (λ(a:List Tm×Option V) p=>(if agV p a.1 then a.1 else a.1++[p],some (V.d (ay p)))) a).1=eU a.1 bs:=by
   intro bs;induction bs with
   |nil=>intro a;rfl
   |cons b bs ih=>intro a;refine bO (List.foldl_cons ..) ?_;refine bO (ih ..) ?_;rfl
  have hl:=EU bs as;have h1:=key bs (as,none);generalize bs.foldl (λ(a:List Tm×Option V) p=>(if agV p a.1 then a.1 else a.1++[p],some (V.d (ay p)))) (as,none)=A at iM h1;haveI iM:=(show A.1=eU as bs from h1)▸iM;exact cr n 12 [.d da,.d db] σ [.x _,.x _,.r _] gP iM ((Br _ (dU σ _)).trans (congrArg (Bq _) (ux (d:=.list ((eU as bs).map ay)) rfl (by simp[lim];exact rQ hl hla rfl)))) (nL ..)
 .show AE _ _ (bs.map ay);rcases Ke hb with rfl|rfl
  .exact .list _
  .exact .tuple _
 .rintro⟨o,w⟩ p r ⟨h1,h2,h3⟩;dsimp only at h1 h3;simp only[List.length_cons] at h3;have hc:=Bx n (Tj σ o) p o (.loc σ.length) (.loc (dU σ _)) (h2 p dC) h1;refine⟨[Dv da,Dv db,some (.loc σ.length),Dv (ay p)],rfl,?_⟩;dsimp only;generalize agV p o=q at hc ⊢;induction q with
  |true=>exact⟨run G (CF n) bJ [Dv da,Dv db,some (.loc σ.length),Dv (ay p)] (Tj σ o) [.r _] hc,h1,λ q hq=>h2 q (d8 _ hq),by refine bO (if_pos rfl ..) ?_;exact yr h3⟩
  |false=>
   have sF:=(m9 (C:=CF n) (fr:=[Dv da,Dv db,some (.loc σ.length),Dv (ay p)]) (i:=2) (e:=.var 3) rfl rfl (dU σ _) (show(o.map ay).length<=lim by simp[lim];exact eF h3 rfl)).trans (congrArg (XR.next _) ((jy ..).trans (congrArg (λ l=>σ++[agS.lst l]) (List.map_append (f:=ay) (l₁:=o) (l₂:=[p])).symm)));refine⟨run G (CF n) bJ [Dv da,Dv db,some (.loc σ.length),Dv (ay p)] (Tj σ o) [.r _,.x _] hc sF,λ q hq=>?_,λ q hq=>h2 q (d8 _ hq),by simp;exact mG h3⟩;rcases bX.mp hq with z|z
   .exact h1 q z
   .obtain rfl:=fW.mp z;exact h2 _ dC
def bZ(a:List Tm)(p:Tm):List Tm:=a.filter λ q=>!(alike p q)
theorem qu(n:Nat)(σ:ae)(as:List Tm)(p:Tm)(da:PyData)(ha:agt da=some (as.map ay))(PZ:∀q∈as,Sm n q)(hp:Sm n p)(hl:as.length<=1000):CF (n+1) 13 [.d da,.d (ay p)] σ=.ok (.d (.tuple ((bZ as p).map ay))) σ:=by
 have hf:as.filterMap (λ q=>if !(alike p q) then some (ay q) else none)=(bZ as p).map ay:=by
  unfold bZ;clear ha PZ hl;induction as with
  |nil=>rfl
  |cons a as ih=>rw[List.filterMap_cons,List.filter_cons,ih];cases alike p a<;>simp
 have qv:evE G (CF n) (.comp 4 (.var 3) (.var 3) (.var 0) [(.not (.call 5 [(.var 1),(.var 3)]))]) [Dv da,Dv (ay p)] σ=.ok (.d (.list ((bZ as p).map ay))) σ:=by
  rw[o7,←hf];refine nd (n:=4) ay (λ q=>if !(alike p q) then some (ay q) else none) (items:=as) ha (by simp only[lim];exact aj hl rfl) ?_;intro q hq;have hs:=PZ q hq;have hc:=lO p q n σ (by have:=hp.fuel;exact M9 this rfl) (by have:=hs.fuel;exact M9 this rfl) (by have:=hp.dp;exact aj this rfl) (by have:=hs.dp;exact aj this rfl);have hn:=zJ (xs:=[]) (gR G (CF n) (.not (.call 5 [(.var 1),(.var 3)])) ([Dv da,Dv (ay p),none,some (V.d (ay q)),none,none]) σ [.r _] hc) rfl;refine(congrArg (λ r:Res V=>r.bind λ b σ=>(Res.of σ (aP b)).bind λ b σ=>if b=true then(evE G (CF n) (.var 3) [Dv da,Dv (ay p),none,some (V.d (ay q)),none,none] σ).bind λ r σ=>match r with|.d z=>.ok (some z) σ | .loc _=>.stuck else .ok none σ) hn).trans ?_;generalize alike p q=b;induction b<;>rfl
 have:(bZ as p).length<=as.length:=lY ..
 exact cr n 13 [.d da,.d (ay p)] σ [.r _,.o _] qv (ux (d:=.list ((bZ as p).map ay)) rfl (show((bZ as p).map ay).length<=lim by simp[lim];exact rQ this hl rfl)) (ah σ)
def aH:Tm->List Vr->List Vr
 |.var x k t,o=>if bt ⟨x,k,t⟩ o then o else o++[⟨x,k,t⟩]
 |.con _ _,o=>o
 |.app f a,o=>aH a (aH f o)
 |.lam x k t b,o=>aH b (if bt ⟨x,k,t⟩ o then o else o++[⟨x,k,t⟩])
theorem L1:aH (.var x k t) o=(if bt ⟨x,k,t⟩ o then o else o++[⟨x,k,t⟩]):=rfl
theorem IT:aH (.con u1 u2) o=(o):=rfl
theorem IU:aH (.app f a) o=(aH a (aH f o)):=rfl
theorem IV:aH (.lam x k t b) o=(aH b (if bt ⟨x,k,t⟩ o then o else o++[⟨x,k,t⟩])):=rfl
noncomputable def Tm.vs:Tm->Nat
 |.var _ _ _=>1
 |.con _ _=>0
 |.app f a=>f.vs+a.vs
 |.lam _ _ _ b=>b.vs+1
theorem OB:Tm.vs (.var u1 u2 u3)=(1):=rfl
theorem WA:Tm.vs (.con u1 u2)=(0):=rfl
theorem OC:Tm.vs (.app f a)=(f.vs+a.vs):=rfl
theorem OD:Tm.vs (.lam u1 u2 u3 b)=(b.vs+1):=rfl
theorem iT:∀(t:Tm) (o:List Vr),(aH t o).length<=o.length+t.vs:=by
 intro t;induction t with
 |var x k t=>intro o;(first|rw[L1]|rw[IT]|rw[IU]|rw[IV]);split<;>simp[OB]
 |con x t=>intro o;simp[IT,WA]
 |app f a iX gd=>intro o;have:=iX o;have:=gd (aH f o);simp only[IU,OC];with_reducible exact FI ‹_› this
 |lam x k t b ih=>
  intro o;have:=ih (if bt ⟨x,k,t⟩ o then o else o++[⟨x,k,t⟩])
  simp only[IV,OD];refine ao this ?_;split<;>simp<;>exact bV (gk ..)
theorem nh:∀(t:Tm) (n:Nat) (σ:ae) (k:Nat) (o:List Vr),t.dp+2<=n->t.dp<=800->σ[k]?=some (.lst (o.map aV))->o.length+t.vs<=100000 ->
  CF n 14 [.d (ay t),.loc k] σ=.ok (.d .none) (σ.set k (.lst ((aH t o).map aV))):=by
 intro t;induction t with
 |var x k t=>
  intro n σ j o hn hd eP ho;obtain⟨n,rfl⟩:=aN hn;simp only[lM,OB] at hd ho;have e2:=(zH (d0 .nZ) (ay (.var x k t)) eP).trans (congrArg (Bq σ) (qq (x:=x) (k:=k) o (show t.dp<=900 by exact aj hd rfl)))
  (first|rw[L1]|rw[IT]|rw[IU]|rw[IV])
  generalize bt ⟨x,k,t⟩ o=b at e2 ⊢;induction b with
  |true=>exact cr n 14 [.d (ay (.var x k t)),.loc j] σ [.r _] e2 ((ah σ).trans (m8 eP).symm)
  |false=>
   have ha:=m9 (C:=CF n) (fr:=[Dv (ay (.var x k t)),some (.loc j)]) (i:=1) (e:=.var 0) rfl rfl eP (show(o.map aV).length<=lim by simp[lim];exact eF ho rfl);exact cr n 14 [.d (ay (.var x k t)),.loc j] σ [.r _,.x _] e2 ha ((jx ..).trans (by rw[if_neg Bool.false_ne_true,List.map_append];rfl))
 |con x t=>
  intro n σ j o hn hd eP ho;obtain⟨n,rfl⟩:=aN hn;exact cr n 14 [.d (ay (.con x t)),.loc j] σ [] ((ah σ).trans (m8 eP).symm)
 |app f a iX gd=>
  intro n σ j o hn hd eP ho;simp only[fx,OC] at hn hd ho;obtain⟨n,rfl⟩:=aN hn;have Bt:=iT f o;exact cr n 14 [.d (ay (.app f a)),.loc j] σ [.r _,.r _] (iX n σ j o (by exact oz hn) (by exact g9 hd) eP (by exact M5 ho)) (gd n _ j (aH f o) (by exact gJ hn) (by exact fm hd) (xC eP) (by exact MO ho Bt)) (by rw[List.set_set];exact jx ..)
 |lam x k t b ih=>
  intro n σ j o hn hd eP ho;simp only[fy,OD] at hn hd ho;obtain⟨n,rfl⟩:=aN hn;have e2:=(zH (d0 .nZ) (aV ⟨x,k,t⟩) eP).trans (congrArg (Bq σ) (qq (x:=x) (k:=k) o (show t.dp<=900 by exact Si hd rfl)))
  (first|rw[L1]|rw[IT]|rw[IU]|rw[IV])
  generalize bt ⟨x,k,t⟩ o=c at e2 ⊢;induction c with
  |true=>exact cr n 14 [.d (ay (.lam x k t b)),.loc j] σ [.r _,.r _] e2 (ih n σ j o (by exact gJ hn) (by exact fm hd) eP (by exact yr ho)) (jx ..)
  |false=>
   have ha:=(m9 (C:=CF n) (fr:=[Dv (ay (.lam x k t b)),some (.loc j)]) (i:=1) (e:=.idx (.var 0) (Qi 1)) rfl rfl eP (show(o.map aV).length<=lim by simp[lim];exact eF ho rfl)).trans (congrArg (λ l=>XR.next _ (σ.set j (.lst l))) (List.map_append (f:=aV) (l₁:=o) (l₂:=[(⟨x,k,t⟩:Vr)])).symm);exact cr n 14 [.d (ay (.lam x k t b)),.loc j] σ [.r _,.x _,.r _] e2 ha (ih n _ j (o++[(⟨x,k,t⟩:Vr)]) (by exact gJ hn) (by exact fm hd) (xC eP) (by simp;exact mG ho)) (by rw[List.set_set];exact jx ..)
noncomputable abbrev Tp:=Tn×Ty
def rm(p:Tp):PyData:=.tuple [.str (st p.1.i),cI p.2]
noncomputable def qx(n:Tn):List Tp->Option Ty
 |[]=>none
 |(m,s)::r=>if m.same n then some s else qx n r
theorem QU:qx n ([])=(none):=rfl
theorem WB:qx n ((m,s)::r)=(if m.same n then some s else qx n r):=rfl
def eG(ps:List Tp):Ty->Ty
 |.any n=>(qx n ps).getD (.any n)
 |.fn a b=>.fn (eG ps a) (eG ps b)
 |.bool=>.bool
 |.ind=>.ind
theorem OE:eG ps (.any n)=((qx n ps).getD (.any n)):=rfl
theorem OF:eG ps (.fn a b)=(.fn (eG ps a) (eG ps b)):=rfl
theorem OG:eG ps (.bool)=(.bool):=rfl
theorem OH:eG ps (.ind)=(.ind):=rfl
theorem uz(n:Tn):∀ps:List Tp,ps.findSome? (λ p=>if p.1.same n then some (cI p.2) else none)=(qx n ps).map cI
 |[]=>rfl
 |(w,s)::r=>by
  (rewrite[List.findSome?_cons];(first|rw[QU]|rw[WB]))
  cases h:w.same n with
  |true=>simp[]
  |false=>simp[];exact uz n r
def bT:List S:=[.ite (.cmp .eq (.var 2) (Qx 1 1)) [.ret (.var 3)] []]
theorem kn(ps:List Tp):∀(s:Ty) (n:Nat) (σ:ae),s.dp+2<=n->CF n 15 [.d (.tuple (ps.map rm)),.d (cI s)] σ=.ok (.d (cI (eG ps s))) σ:=by
 intro s;induction s with
 |bool=>
  intro n σ hn;obtain⟨n,rfl⟩:=aN hn;exact cr n 15 [.d (.tuple (ps.map rm)),.d (cI .bool)] σ [] (ah σ)
 |ind=>
  intro n σ hn;obtain⟨n,rfl⟩:=aN hn;exact cr n 15 [.d (.tuple (ps.map rm)),.d (cI .ind)] σ [] (ah σ)
 |any m=>
  intro n σ hn;obtain⟨n,rfl⟩:=aN hn;refine Exists.elim (uq (body:=aD G (CF n) bT) (t:=.tup [.var 2,.var 3]) (σ:=σ) rm (λ p=>if p.1.same m then some (cI p.2) else none)
   (λ fr=>∃a b,fr=[Dv (.tuple (ps.map rm)),Dv (cI (.any m)),a,b]) (items:=ps) (.tuple _) ?_ (fr:=[Dv (.tuple (ps.map rm)),Dv (cI (.any m)),none,none]) ⟨none,none,rfl⟩) ?_
  .rintro fr p ⟨a,b,rfl⟩;refine⟨[Dv (.tuple (ps.map rm)),Dv (cI (.any m)),Dv (.str (st p.1.i)),Dv (cI p.2)],rfl,?_⟩;have hc:=(Io (st p.1.i) (st m.i)).trans (congrArg (λ b=>some (PyData.bool b)) (Oo p.1 m));generalize p.1.same m=q at hc ⊢;induction q with
   |true=>exact run G (CF n) bT [Dv (.tuple (ps.map rm)),Dv (cI (.any m)),Dv (.str (st p.1.i)),Dv (cI p.2)] σ [.o _] hc
   |false=>exact⟨_,⟨Dv (.str (st p.1.i)),Dv (cI p.2),rfl⟩,run G (CF n) bT [Dv (.tuple (ps.map rm)),Dv (cI (.any m)),Dv (.str (st p.1.i)),Dv (cI p.2)] σ [.o _] hc⟩
  .rintro aR ⟨⟨a,b,rfl⟩,hk⟩;rw[uz] at hk
   (first|rw[OE]|rw[OF]|rw[OG]|rw[OH])
   generalize qx m ps=o at hk ⊢;induction o<;>exact cr n 15 [.d (.tuple (ps.map rm)),.d (cI (.any m))] σ [.x _] hk (ah σ)
 |fn a b gd Ez=>
  intro n σ hn;simp only[r9] at hn;obtain⟨n,rfl⟩:=aN hn;obtain⟨n,rfl⟩:=aN (n:=n) (k:=0) (by exact gn hn rfl);exact cr (n+1) 15 [.d (.tuple (ps.map rm)),.d (cI (.fn a b))] σ [.r _,.r _,.r _] (gd (n+1) σ (by exact oz hn)) (Ez (n+1) σ (by exact gJ hn)) (m7 n _ _ σ) (ah σ)
def aY(ps:List Tp):Tm->Tm
 |.var x k t=>.var x k (eG ps t)
 |.con x t=>.con x (eG ps t)
 |.app f a=>.app (aY ps f) (aY ps a)
 |.lam x k t b=>.lam x k (eG ps t) (aY ps b)
theorem aac:aY ps (.var x k t)=(.var x k (eG ps t)):=rfl
theorem aad:aY ps (.con x t)=(.con x (eG ps t)):=rfl
theorem aae:aY ps (.app f a)=(.app (aY ps f) (aY ps a)):=rfl
theorem aaf:aY ps (.lam x k t b)=(.lam x k (eG ps t) (aY ps b)):=rfl
theorem jA(ps:List Tp):∀(t:Tm) (n:Nat) (σ:ae),t.dp+3<=n->CF n 16 [.d (.tuple (ps.map rm)),.d (ay t)] σ=.ok (.d (ay (aY ps t))) σ:=by
 intro t;induction t with
 |var x k t=>
  intro n σ hn;simp only[lM] at hn;obtain⟨n,rfl⟩:=aN hn;exact cr n 16 [.d (.tuple (ps.map rm)),.d (ay (.var x k t))] σ [.r _] (kn ps t n σ (by exact kE hn rfl)) (ah σ)
 |con x t=>
  intro n σ hn;simp only[iK] at hn;obtain⟨n,rfl⟩:=aN hn;exact cr n 16 [.d (.tuple (ps.map rm)),.d (ay (.con x t))] σ [.r _] (kn ps t n σ (by exact kE hn rfl)) (ah σ)
 |app f a iX gd=>
  intro n σ hn;simp only[fx] at hn;obtain⟨n,rfl⟩:=aN hn;exact cr n 16 [.d (.tuple (ps.map rm)),.d (ay (.app f a))] σ [.r _,.r _] (iX n σ (by exact oz hn)) (gd n σ (by exact gJ hn)) (ah σ)
 |lam x k t b ih=>
  intro n σ hn;simp only[fy] at hn;obtain⟨n,rfl⟩:=aN hn;obtain⟨n,rfl⟩:=aN (n:=n) (k:=0) (by exact gn hn rfl);exact cr (n+1) 16 [.d (.tuple (ps.map rm)),.d (ay (.lam x k t b))] σ [.r _,.r _] (cr n 16 [.d (.tuple (ps.map rm)),.d (ay (.var x k t))] σ [.r _] (kn ps t n σ (by exact MX hn)) (ah σ)) (ih (n+1) σ (by exact gJ hn)) (ah σ)
theorem pe(ps:List Tp)(x:Bs)(k:Nat)(t:Ty)(n:Nat)(σ:ae)(hn:t.dp+3<=n):CF n 16 [.d (.tuple (ps.map rm)),.d (.tuple [.str (st 3),.str (nm x k),cI t])] σ=.ok (.d (.tuple [.str (st 3),.str (nm x k),cI (eG ps t)])) σ:=jA ps (.var x k t) n σ hn
noncomputable def rn:Ty->Bool
 |.bool=>false
 |.ind=>false
 |.any _=>true
 |.fn a b=>rn a || rn b
def ag3:Tm->Bool
 |.var _ _ t=>rn t
 |.con _ t=>rn t
 |.app f a=>ag3 f || ag3 a
 |.lam _ _ t b=>rn t || ag3 b
theorem L2(h1:evE G C x fr σ=.ok (.d (.bool b)) σ)(h2:evE G C y fr σ=.ok (.d (.bool c)) σ):evE G C (.or [x,y]) fr σ=.ok (.d (.bool (b || c))) σ:=by
 refine Nu (Bool.or_false c ..) ?_;exact zK h1 (zK h2 rfl)
theorem lQ:∀(s:Ty) (n:Nat) (σ:ae),s.dp+1<=n->CF n 17 [.d (cI s)] σ=.ok (.d (.bool (rn s))) σ:=by
 intro s;induction s with
 |bool=>intro n σ hn;obtain⟨n,rfl⟩:=aN hn;exact cr n 17 [.d (cI .bool)] σ [] (ah σ)
 |ind=>intro n σ hn;obtain⟨n,rfl⟩:=aN hn;exact cr n 17 [.d (cI .ind)] σ [] (ah σ)
 |any m=>intro n σ hn;obtain⟨n,rfl⟩:=aN hn;exact cr n 17 [.d (cI (.any m))] σ [] (ah σ)
 |fn a b gd Ez=>
  intro n σ hn;simp only[r9] at hn;obtain⟨n,rfl⟩:=aN hn;have h:=L2 (gR G (CF n) (.call 17 [(Qx 0 1)]) [Dv (cI (.fn a b))] σ [.r _] (gd n σ (by exact oz hn))) (gR G (CF n) (.call 17 [(Qx 0 2)]) [Dv (cI (.fn a b))] σ [.r _] (Ez n σ (by exact gJ hn)));exact cr n 17 [.d (cI (.fn a b))] σ [.w _] h (ah σ)
theorem xE:∀(t:Tm) (n:Nat) (σ:ae),t.dp+2<=n->CF n 18 [.d (ay t)] σ=.ok (.d (.bool (ag3 t))) σ:=by
 intro t;induction t with
 |var x k t=>intro n σ hn;simp only[lM] at hn;obtain⟨n,rfl⟩:=aN hn;exact cr n 18 [.d (ay (.var x k t))] σ [.r _] (lQ t n σ (by exact kE hn rfl)) (ah σ)
 |con x t=>intro n σ hn;simp only[iK] at hn;obtain⟨n,rfl⟩:=aN hn;exact cr n 18 [.d (ay (.con x t))] σ [.r _] (lQ t n σ (by exact kE hn rfl)) (ah σ)
 |app f a iX gd=>
  intro n σ hn;simp only[fx] at hn;obtain⟨n,rfl⟩:=aN hn;have h:=L2 (gR G (CF n) (.call 18 [(Qx 0 1)]) [Dv (ay (.app f a))] σ [.r _] (iX n σ (by exact oz hn))) (gR G (CF n) (.call 18 [(Qx 0 2)]) [Dv (ay (.app f a))] σ [.r _] (gd n σ (by exact gJ hn)));exact cr n 18 [.d (ay (.app f a))] σ [.w _] h (ah σ)
 |lam x k t b ih=>
  intro n σ hn;simp only[fy] at hn;obtain⟨n,rfl⟩:=aN hn;obtain⟨n,rfl⟩:=aN (n:=n) (k:=0) (by exact gn hn rfl);have h:=L2 (gR G (CF (n+1)) (.call 18 [(Qx 0 1)]) [Dv (ay (.lam x k t b))] σ [.r _] (cr n 18 [.d (ay (.var x k t))] σ [.r _] (lQ t n σ (by exact MX hn)) (ah σ))) (gR G (CF (n+1)) (.call 18 [(Qx 0 2)]) [Dv (ay (.lam x k t b))] σ [.r _] (ih (n+1) σ (by exact gJ hn)));exact cr (n+1) 18 [.d (ay (.lam x k t b))] σ [.w _] h (ah σ)
noncomputable abbrev iu:=List (Cn×Ty)
def zT(cs:iu):List (Str×PyData):=cs.map λ p=>(st p.1.i,cI p.2)
noncomputable def fO(x:Cn):iu->Option Ty
 |[]=>none
 |(y,t)::r=>if x.same y then some t else fO x r
theorem aag:fO x ([])=(none):=rfl
theorem aah:fO x ((y,t)::r)=(if x.same y then some t else fO x r):=rfl
theorem qy(x:Cn):∀cs:iu,(zT cs).lookup (st x.i)=(fO x cs).map cI
 |[]=>rfl
 |(y,t)::r=>by
  show List.lookup (st x.i) ((st y.i,cI t)::zT r)=_
  (rewrite[List.lookup_cons,CU];(first|rw[aag]|rw[aah]))
  cases x.same y with
  |true=>rfl
  |false=>exact qy x r
section
variable {G:List PyData}{C:aG}{x:Cn}{cs:iu}
def IW(ng:Bool)(o:Option (Option V))(v:V)(σ:ae):Res V:=match v with
   |.d (.str k)=>(Res.of σ (agN σ o)).bind λ fc σ=>.ok (.d (.bool (ng != (fc.lookup k).isSome))) σ
   |_=>.stuck
theorem IX(ng:Bool)(a:E)(i:Nat):evE G C (.qW ng a i) fr σ=k1 (IW ng fr[i]?) (evE G C a fr σ):=by rw[tv];rfl
theorem zU{ng:Bool}{m:Nat}{σ:ae}(h:σ[m]?=some (.dct (zT cs))):IW ng (some (some (.loc m))) (.d (.str (st x.i))) σ=.ok (.d (.bool (ng != (fO x cs).isSome))) σ:=by
 unfold IW agN;dsimp only;rw[h];dsimp only;rw[Res.bx,Res.ax,qy];cases fO x cs<;>rfl
def IY(m:Nat)(v:V)(σ:ae):Res V:=match v with
    |.d (.str k)=>(Res.of σ (agN σ (some (some (.loc m))))).bind λ fc σ=>(Res.of σ (fc.lookup k)).bind λ r σ=>.ok (.d r) σ
    |_=>.stuck
theorem QV{fr:agq}{σ:ae}(i m:Nat)(a:E)(h:fr[i]?=some (some (.loc m))):evE G C (.u0 i a) fr σ=k1 (IY m) (evE G C a fr σ):=by rw[yA,h];rfl
theorem IZ{m:Nat}{σ:ae}{t:Ty}(h:σ[m]?=some (.dct (zT cs)))(hl:fO x cs=some t):IY m (.d (.str (st x.i))) σ=.ok (.d (cI t)) σ:=by
 unfold IY agN;dsimp only;rw[h];dsimp only;rw[Res.bx,Res.ax,qy,hl];rfl
end
def en(cs:iu):Tm->Bool
 |.var _ _ _=>true
 |.con x t=>x.same .eq || (match fO x cs with|some s=>s.eq t|none=>false)
 |.app f a=>en cs f&&en cs a
 |.lam _ _ _ b=>en cs b
theorem xF:en cs (.var u1 u2 u3)=(true):=rfl
theorem vu:en cs (.con x t)=(x.same .eq || (match fO x cs with|some s=>s.eq t|none=>false)):=rfl
theorem xG:en cs (.app f a)=(en cs f&&en cs a):=rfl
theorem xH:en cs (.lam u1 u2 u3 b)=(en cs b):=rfl
theorem Bz(cs:iu):∀(t:Tm) (n:Nat) (σ:ae) (m:Nat),t.dp+1<=n->t.dp<=800->σ[m]?=some (.dct (zT cs))->CF n 19 [.loc m,.d (ay t)] σ=if en cs t then .ok (.d .none) σ else .err σ:=by
 intro t;induction t with
 |var x k t=>
  intro n σ m hn hd eP;obtain⟨n,rfl⟩:=aN hn;exact cr n 19 [.loc m,.d (ay (.var x k t))] σ [] (ah σ)
 |con x t=>
  intro n σ m hn hd eP;simp only[iK] at hd;obtain⟨n,rfl⟩:=aN hn;have h1:evE G (CF n) (.and [(.cmp .eq (Qx 1 0) (Qs 4)),(.cmp .ne (Qx 1 1) (Qs 5))]) [some (.loc m),Dv (ay (.con x t))] σ=.ok (.d (.bool (!(x.same .eq)))) σ:=by
   rw[←Bool.and_true (!(x.same .eq)),←Bool.true_and (!(x.same .eq)&&true)];exact zJ rfl (zJ (congrArg (λ b=>Res.ok (V.d (.bool (!b))) σ) (Ow x)) rfl)
  have WC:=(IX (G:=G) (C:=CF n) (fr:=[some (.loc m),Dv (ay (.con x t))]) true (Qx 1 1) 0).trans (zU (x:=x) eP)
  (first|rw[xF]|rw[vu]|rw[xG]|rw[xH])
  generalize x.same .eq=b at h1 ⊢;induction b with
  |true=>exact cr n 19 [.loc m,.d (ay (.con x t))] σ [.w _] h1 (ah σ)
  |false=>
   refine cq (M:=λ o=>fO x cs=o->_=Res.ok (V.d (.bool (true != o.isSome))) σ->_=if(false || (match o with|some s=>s.eq t|none=>false))=true then _ else _) (fO x cs) (λ _ _ WC=>?_) (λ s _ hl WC=>?_) rfl WC
   .exact cr n 19 [.loc m,.d (ay (.con x t))] σ [.w _,.w _] h1 ((Il ..).trans (congrArg (ko _) WC)) (ah σ)
   .have hc:d0 .ne (cI s) (cI t)=some (.bool (!(s.eq t))):=by
     have:=dm t
     refine cN _ _ _ ?_;rw[vB,if_pos (.inl (by simp only[fj];exact fK this hd rfl)),iE]
    have hor:=L2 WC (gR G (CF n) (.cmp .ne (.u0 0 (Qx 1 1)) (Qx 1 2)) [some (.loc m),Dv (ay (.con x t))] σ [.r _,.o _] ((QV 0 m _ rfl).trans (IZ eP hl)) hc);show _=if(false || s.eq t)=true then Res.ok (V.d .none) σ else .err σ
    generalize s.eq t=q at hor ⊢;induction q<;>exact cr n 19 [.loc m,.d (ay (.con x t))] σ [.w _,.w _] h1 hor (ah σ)
 |app f a iX gd=>
  intro n σ m hn hd eP;simp only[fx] at hn hd;obtain⟨n,rfl⟩:=aN hn;have h1:=iX n σ m (by exact oz hn) (by exact g9 hd) eP;have h2:=gd n σ m (by exact gJ hn) (by exact fm hd) eP
  (first|rw[xF]|rw[vu]|rw[xG]|rw[xH])
  generalize en cs f=b1,en cs a=b2 at h1 h2 ⊢;induction b1 with
  |false=>exact cr n 19 [.loc m,.d (ay (.app f a))] σ [.r _] h1 (ah σ)
  |true=>induction b2<;>exact cr n 19 [.loc m,.d (ay (.app f a))] σ [.r _,.r _] h1 h2 (ah σ)
 |lam x k t b ih=>
  intro n σ m hn hd eP;simp only[fy] at hn hd;obtain⟨n,rfl⟩:=aN hn;have h1:=ih n σ m (by exact gJ hn) (by exact fm hd) eP
  (first|rw[xF]|rw[vu]|rw[xG]|rw[xH])
  generalize en cs b=b1 at h1 ⊢;induction b1<;>exact cr n 19 [.loc m,.d (ay (.lam x k t b))] σ [.r _] h1 (ah σ)
def agr(cs:iu)(t:Tm):Option Ty:=if en cs t then ags t else none
theorem gC(cs:iu)(t:Tm)(n:Nat)(σ:ae)(m:Nat)(hn:t.dp+3<=n)(hd:t.dp<=800)(eP:σ[m]?=some (.dct (zT cs))):CF n 20 [.loc m,.d (ay t)] σ=zL σ (agr cs t):=by
 obtain⟨n,rfl⟩:=aN hn;have h1:=Bz cs t n σ m (by exact kE hn rfl) hd eP;have h2:=agT t n σ (by exact kE hn rfl) hd;unfold agr;generalize en cs t=b at h1 ⊢;generalize ags t=o at h2 ⊢;induction b with
 |false=>exact cr n 20 [.loc m,.d (ay t)] σ [.r _] h1 (ah σ)
 |true=>induction o<;>exact cr n 20 [.loc m,.d (ay t)] σ [.r _,.r _] h1 h2 (ah σ)
structure Th where
 hs:List Tm
 c:Tm
def dP(t:Th):PyData:=.tuple [.tuple (t.hs.map ay),ay t.c]
def qz(σ:ae):Option Th->Res V
 |some t=>.ok (.d (dP t)) σ
 |none=>.err σ
structure Mo(t:Tm):Prop where
 dp:t.dp<=60
 sz:t.sz<=900
 vs:t.vs<=500
 pk:t.pk<=100
structure oh(t:Th):Prop where
 hs:∀h∈t.hs,Mo h
 c:Mo t.c
 len:t.hs.length<=100
theorem Mo.sm(h:Mo t)(hn:100<=n):Sm n t:=⟨by have:=h.dp;exact eI this hn rfl,by have:=h.dp;exact aj this rfl⟩
noncomputable def dX(made:List Th)(i:Int):Option Th:=if i<0\/(made.length:Int)<=i then none else made[i.toNat]?
theorem fT(a b:Int):d0 .lt (.int a) (.int b)=some (.bool (decide (a<b))):=rfl
theorem uA(a b:Int):d0 .ge (.int a) (.int b)=some (.bool (decide (b<=a))):=rfl
theorem ahj(a b:Int):d0 .gt (.int a) (.int b)=some (.bool (decide (b<a))):=rfl
theorem C7(h0:0<=i)(h1:i<1000):O6 i=some i.toNat:=by
 obtain⟨j,rfl⟩:=Int.eq_ofNat_of_zero_le h0;rw[Int.toNat_natCast];exact C2 j (by exact Int.ofNat_lt.mp h1)
theorem xI(n:Nat)(σ:ae)(m:Nat)(made:List Th)(i:Int)(eP:σ[m]?=some (.lst (made.map dP)))(hl:made.length<=900):CF (n+1) 21 [.loc m,.d (.int i)] σ=qz σ (dX made i):=by
 have agw:gr (.list (made.map dP))=some (.int made.length):=by rw[agH _ (by simp[lim];exact aj hl rfl)];simp
 have kS:evE G (CF n) (.or [(.cmp .lt (.var 1) (Qi 0)),(.cmp .ge (.var 1) (.len (.var 0)))]) [some (.loc m),Iv i] σ=.ok (.d (.bool (decide (i<0\/(made.length:Int)<=i)))) σ:=by
  rw[Bool.decide_or,←Bool.or_false (decide ((made.length:Int)<=i))];exact zK rfl (zK (gR G (CF n) (.cmp .ge (.var 1) (.len (.var 0))) [some (.loc m),Iv i] σ [.r _,.o _] ((Br _ eP).trans (congrArg (Bq σ) agw)) rfl) rfl)
 unfold dX;by_cases h0:i<0\/(made.length:Int)<=i
 .rw[decide_eq_true h0] at kS;rw[if_pos h0];exact cr n 21 [.loc m,.d (.int i)] σ [.w _] kS (ah σ)
 .rw[decide_eq_false h0] at kS;rw[if_neg h0];have h1:¬i<0:=λ q=>h0 (.inl q);have h2:¬(made.length:Int)<=i:=λ q=>h0 (.inr q);have hx:i.toNat<made.length:=by exact Nk h1 h2
  have hi:dD (.list (made.map dP)) (.int i)=some (dP made[i.toNat]):=by
   show((O6 i).bind λ n=>(made.map dP)[n]?)=_;rw[C7 (by exact Nm h1) (by exact Nn h2 hl rfl)];simp[hx]
  rw[gj hx];exact cr n 21 [.loc m,.d (.int i)] σ [.w _,.r _] kS ((We _ _ eP).trans (congrArg (Bq σ) hi)) (ah σ)
def nP(cs:iu):Nat->Vr->Tm->Option Th
 |11,_,t=>(agr cs t).bind λ _=>(ags t).map λ s=>⟨[],eqT s t t⟩
 |12,_,t=>(agr cs t).bind λ s=>if s.eq .bool then some ⟨[t],t⟩ else none
 |_,v,t=>(agr cs t).bind λ _=>(ags (.app (.lam v.x v.k v.t t) (.var v.x v.k v.t))).map λ s=>⟨[],eqT s (.app (.lam v.x v.k v.t t) (.var v.x v.k v.t)) t⟩
theorem EW(cs:iu)(t:Tm)(n:Nat)(σ:ae)(m:Nat)(ht:Mo t)(hn:100<=n)(eP:σ[m]?=some (.dct (zT cs))):CF (n+1) 22 [.d (.str (st 11)),.d (.tuple [.str (st 11),ay t]),.loc m] σ=qz σ (nP cs 11 ⟨.x,0,.bool⟩ t):=by
 have hd:=ht.dp;have h1:=gC cs t n σ m (by exact eI hd hn rfl) (by exact aj hd rfl) eP;have h2:=lP n σ t t (by exact eI hd hn rfl) (by exact aj hd rfl);show _=qz σ ((agr cs t).bind _);generalize agr cs t=o at h1 ⊢;induction o with
 |none=>exact cr n 22 [.d (.str (st 11)),.d (.tuple [.str (st 11),ay t]),.loc m] σ [.r _] h1 (ah σ)
 |some ty=>
  rw[Option.bind_some];generalize ags t=o at h2 ⊢;induction o<;>exact cr n 22 [.d (.str (st 11)),.d (.tuple [.str (st 11),ay t]),.loc m] σ [.r _,.r _] h1 h2 (ah σ)
theorem zV(cs:iu)(t:Tm)(n:Nat)(σ:ae)(m:Nat)(ht:Mo t)(hn:100<=n)(eP:σ[m]?=some (.dct (zT cs))):CF (n+1) 22 [.d (.str (st 12)),.d (.tuple [.str (st 12),ay t]),.loc m] σ=qz σ (nP cs 12 ⟨.x,0,.bool⟩ t):=by
 have hd:=ht.dp;have h1:=gC cs t n σ m (by exact eI hd hn rfl) (by exact aj hd rfl) eP;show _=qz σ ((agr cs t).bind _);generalize agr cs t=o at h1 ⊢;induction o with
 |none=>exact cr n 22 [.d (.str (st 12)),.d (.tuple [.str (st 12),ay t]),.loc m] σ [.r _] h1 (ah σ)
 |some ty=>
  have hcm:d0 .ne (cI ty) (cI .bool)=some (.bool (!(ty.eq .bool))):=by
   refine cN _ _ _ ?_;rw[vB,if_pos (.inl (by simp[EA,u5,wQ,vA,uW,fj])),iE]
  rw[Option.bind_some];generalize ty.eq .bool=b at hcm ⊢;induction b<;>exact cr n 22 [.d (.str (st 12)),.d (.tuple [.str (st 12),ay t]),.loc m] σ [.r _,.o _] h1 hcm (ah σ)
theorem EX(cs:iu)(v:Vr)(t:Tm)(n:Nat)(σ:ae)(m:Nat)(ht:Mo t)(hv:v.t.dp<=60)(hn:100<=n)(eP:σ[m]?=some (.dct (zT cs))):CF (n+1) 22 [.d (.str (st 16)),.d (.tuple [.str (st 16),aV v,ay t]),.loc m] σ=qz σ (nP cs 16 v t):=by
 have hd:=ht.dp;have h1:=gC cs t n σ m (by exact eI hd hn rfl) (by exact aj hd rfl) eP;have AD:(Tm.app (.lam v.x v.k v.t t) (.var v.x v.k v.t)).dp<=62:=by simp only[lM,fx,fy];(apply kD;(apply cV<;>(first|exact aj hv rfl|(with_reducible apply kD;(apply cV<;>(first|exact hv|exact hd))))))
 have h2:=lP n σ (.app (.lam v.x v.k v.t t) (.var v.x v.k v.t)) t (by exact eI AD hn rfl) (by exact aj AD rfl);show _=qz σ ((agr cs t).bind _);generalize agr cs t=o at h1 ⊢;induction o with
 |none=>exact cr n 22 [.d (.str (st 16)),.d (.tuple [.str (st 16),aV v,ay t]),.loc m] σ [.r _] h1 (ah σ)
 |some ty=>
  rw[Option.bind_some];generalize ags (.app (.lam v.x v.k v.t t) (.var v.x v.k v.t))=o at h2 ⊢;induction o<;>exact cr n 22 [.d (.str (st 16)),.d (.tuple [.str (st 16),aV v,ay t]),.loc m] σ [.r _,.r _] h1 h2 (ah σ)
inductive K2(u:Unit:=()) where|trans|comb|eqmp|antisym
noncomputable def K2.ctorIdx{u}(t:K2 u):Nat:=t.casesOn 0 1 2 3
noncomputable def K2.i:K2->Nat | .trans=>15 | .comb=>7 | .eqmp=>14 | .antisym=>13
def eH:K2->Th->Th->Option Th
 |.antisym,l,r=>(ags l.c).map λ s=>⟨eU (bZ l.hs r.c) (bZ r.hs l.c),eqT s l.c r.c⟩
 |.eqmp,l,r=>(dn l.c).bind λ ab=>if alike ab.1 r.c then some ⟨eU l.hs r.hs,ab.2⟩ else none
 |.trans,l,r=>(dn l.c).bind λ ab=>(dn r.c).bind λ cd=>if alike ab.2 cd.1 then(ags ab.1).map λ s=>⟨eU l.hs r.hs,eqT s ab.1 cd.2⟩ else none
 |.comb,l,r=>(dn l.c).bind λ ab=>(dn r.c).bind λ cd=>(ags (.app ab.1 cd.1)).map λ s=>⟨eU l.hs r.hs,eqT s (.app ab.1 cd.1) (.app ab.2 cd.2)⟩
theorem uB(h:dn t=some ab)(hd:t.dp<=60):ab.1.dp<=60/\ab.2.dp<=60:=by
 obtain⟨x,ty,rfl⟩:=wk h;simp only[iK,fx] at hd;constructor<;>(first|exact fm hd|exact O3 hd)
theorem sf(h:q∈bZ a p):q∈a:=(List.mem_filter.mp h).1
theorem I0(k:K2)(l r:Th)(n:Nat)(σ:ae)(hl:oh l)(hr:oh r)(hn:110<=n):CF (n+1) 23 [.d (.str (st k.i)),.d (dP l),.d (dP r)] σ=qz σ (eH k l r):=by
 obtain⟨n,rfl⟩:=aN (n:=n) (k:=0) (by exact gK hn rfl);obtain⟨n,rfl⟩:=aN (n:=n) (k:=0) (by exact gn hn rfl);have hld:=hl.c.dp;have N4:=hr.c.dp;have I2:=hl.len;have hrl:=hr.len;have hj:=nO (n+1) σ l.hs r.hs (.tuple (l.hs.map ay)) (.tuple (r.hs.map ay)) rfl rfl (λ q hq=>(hl.hs q hq).sm (by exact gn hn rfl)) (λ q hq=>(hr.hs q hq).sm (by exact gn hn rfl)) (by exact gI I2 hrl rfl) (by exact gn hn rfl);have od:=o9 n σ l.c;have q8:=o9 n σ r.c;have D5:∀{ab},dn l.c=some ab->ab.1.dp<=60/\ab.2.dp<=60:=λ hq=>uB hq hld;have K5:∀{ab},dn r.c=some ab->ab.1.dp<=60/\ab.2.dp<=60:=λ hq=>uB hq N4;induction k with
 |antisym=>
  have PN:=qu (n+1) σ l.hs r.c (.tuple (l.hs.map ay)) rfl (λ q hq=>(hl.hs q hq).sm (by exact gn hn rfl)) (hr.c.sm (by exact gn hn rfl)) (by exact aj I2 rfl);have UW:=qu (n+1) σ r.hs l.c (.tuple (r.hs.map ay)) rfl (λ q hq=>(hr.hs q hq).sm (by exact gn hn rfl)) (hl.c.sm (by exact gn hn rfl)) (by exact aj hrl rfl);have w1:(bZ l.hs r.c).length<=l.hs.length:=lY ..;have w2:(bZ r.hs l.c).length<=r.hs.length:=lY ..;have hj2:=nO (n+1) σ (bZ l.hs r.c) (bZ r.hs l.c) (.tuple ((bZ l.hs r.c).map ay)) (.tuple ((bZ r.hs l.c).map ay)) rfl rfl (λ q hq=>(hl.hs q (sf hq)).sm (by exact gn hn rfl)) (λ q hq=>(hr.hs q (sf hq)).sm (by exact gn hn rfl)) (by exact aj (Nat.add_le_add (ao w1 I2) (ao w2 hrl)) rfl) (by exact gn hn rfl);have he:=lP (n+2) σ l.c r.c (by exact eI hld hn rfl) (by exact aj hld rfl);rw[eH];generalize ags l.c=o at he ⊢;induction o<;>exact cr (n+2) 23 [.d (.str (st 13)),.d (dP l),.d (dP r)] σ [.r _,.r _,.r _,.r _,.r _] hj PN UW hj2 he (ah σ)
 |eqmp=>
  rw[eH];generalize dn l.c=o at od D5 ⊢;induction o with
  |none=>exact cr (n+2) 23 [.d (.str (st 14)),.d (dP l),.d (dP r)] σ [.r _,.r _] hj od (ah σ)
  |some ab=>
   have ha:=lO ab.1 r.c (n+2) σ (by have:=(D5 rfl).1;exact eI this hn rfl) (by exact eI N4 hn rfl) (by have:=(D5 rfl).1;exact aj this rfl) (by exact aj N4 rfl);rw[Option.bind_some];generalize alike ab.1 r.c=b at ha ⊢;induction b<;>exact cr (n+2) 23 [.d (.str (st 14)),.d (dP l),.d (dP r)] σ [.r _,.r _,.r _] hj od ha (ah σ)
 |trans=>
  rw[eH];generalize dn l.c=o at od D5 ⊢;induction o with
  |none=>exact cr (n+2) 23 [.d (.str (st 15)),.d (dP l),.d (dP r)] σ [.r _,.r _] hj od (ah σ)
  |some ab=>
   rw[Option.bind_some];generalize dn r.c=o at q8 K5 ⊢;induction o with
   |none=>exact cr (n+2) 23 [.d (.str (st 15)),.d (dP l),.d (dP r)] σ [.r _,.r _,.r _] hj od q8 (ah σ)
   |some cd=>
    have h1:=D5 rfl;have h2:=K5 rfl;have ha:=lO ab.2 cd.1 (n+2) σ (by exact SR h1 hn rfl) (by exact M7 h2 hn rfl) (by exact M6 h1 rfl) (by exact yt h2 rfl);have he:=lP (n+2) σ ab.1 cd.2 (by exact M7 h1 hn rfl) (by exact yt h1 rfl);rw[Option.bind_some];generalize alike ab.2 cd.1=b at ha ⊢;generalize ags ab.1=o at he ⊢;induction b with
    |false=>exact cr (n+2) 23 [.d (.str (st 15)),.d (dP l),.d (dP r)] σ [.r _,.r _,.r _,.r _] hj od q8 ha (ah σ)
    |true=>induction o<;>exact cr (n+2) 23 [.d (.str (st 15)),.d (dP l),.d (dP r)] σ [.r _,.r _,.r _,.r _,.r _] hj od q8 ha he (ah σ)
 |comb=>
  rw[eH];generalize dn l.c=o at od D5 ⊢;induction o with
  |none=>exact cr (n+2) 23 [.d (.str (st 7)),.d (dP l),.d (dP r)] σ [.r _,.r _] hj od (ah σ)
  |some ab=>
   rw[Option.bind_some];generalize dn r.c=o at q8 K5 ⊢;induction o with
   |none=>exact cr (n+2) 23 [.d (.str (st 7)),.d (dP l),.d (dP r)] σ [.r _,.r _,.r _] hj od q8 (ah σ)
   |some cd=>
    have h1:=D5 rfl;have h2:=K5 rfl;have AD:(Tm.app ab.1 cd.1).dp<=61:=by simp only[fx];(apply kD;(apply cV<;>(first|exact yt h1 rfl|exact yt h2 rfl)))
    have he:=lP (n+2) σ (.app ab.1 cd.1) (.app ab.2 cd.2) (by exact eI AD hn rfl) (by exact aj AD rfl);rw[Option.bind_some];generalize ags (.app ab.1 cd.1)=o at he ⊢;induction o<;>exact cr (n+2) 23 [.d (.str (st 7)),.d (dP l),.d (dP r)] σ [.r _,.r _,.r _,.r _] hj od q8 he (ah σ)
def qA(v:Vr)(th:Th):Option Th:=(dn th.c).bind λ ab=>if th.hs.all (λ h=>!(bt v (aS h))) then(ags (.lam v.x v.k v.t ab.1)).map λ s=>⟨th.hs,eqT s (.lam v.x v.k v.t ab.1) (.lam v.x v.k v.t ab.2)⟩ else none
noncomputable def bU:List S:=[.ite (.cmp .mem (.var 0) (.call 3 [(.var 4)])) [.raise] []]
theorem BA(v:Vr)(th:Th)(n:Nat)(σ:ae)(ht:oh th)(hv:v.t.dp<=60)(hn:110<=n):CF (n+1) 24 [.d (aV v),.d (dP th)] σ=qz σ (qA v th):=by
 obtain⟨n,rfl⟩:=aN (n:=n) (k:=0) (by exact gK hn rfl);obtain⟨n,rfl⟩:=aN (n:=n) (k:=0) (by exact gn hn rfl);have hd:=ht.c.dp;have od:=o9 n σ th.c;have D5:∀{ab},dn th.c=some ab->ab.1.dp<=60/\ab.2.dp<=60:=λ hq=>uB hq hd;unfold qA;generalize dn th.c=o at od D5 ⊢;induction o with
 |none=>exact cr (n+2) 24 [.d (aV v),.d (dP th)] σ [.r _] od (ah σ)
 |some ab=>
  have hm:=D5 rfl;rw[Option.bind_some];refine Exists.elim (rl (body:=aD G (CF (n+2)) bU) (t:=.var 4) (σ:=σ) ay (λ h=>!(bt v (aS h)))
   (λ fr=>∃a,fr=[Dv (aV v),Dv (dP th),Dv (ay ab.1),Dv (ay ab.2),a]) (d:=.tuple (th.hs.map ay)) (items:=th.hs) rfl (fr:=[Dv (aV v),Dv (dP th),Dv (ay ab.1),Dv (ay ab.2),none]) ⟨none,rfl⟩ ?_) ?_
  .rintro fr h hh ⟨a,rfl⟩;have wm:=ht.hs h hh;have ji:=nN h (n+2) σ (by have:=wm.dp;exact eI this hn rfl) (by have:=wm.dp;exact aj this rfl) (by have:=wm.sz;exact aj this rfl);have hc:=C4 v (aS h) (by exact aj hv rfl);refine⟨[Dv (aV v),Dv (dP th),Dv (ay ab.1),Dv (ay ab.2),Dv (ay h)],rfl,?_⟩;generalize bt v (aS h)=b at hc ⊢;induction b with
   |true=>exact run G (CF (n+2)) bU [Dv (aV v),Dv (dP th),Dv (ay ab.1),Dv (ay ab.2),Dv (ay h)] σ [.r _,.o _] ji hc
   |false=>exact⟨_,⟨Dv (ay h),rfl⟩,run G (CF (n+2)) bU [Dv (aV v),Dv (dP th),Dv (ay ab.1),Dv (ay ab.2),Dv (ay h)] σ [.r _,.o _] ji hc⟩
  .rintro aR ⟨⟨a,rfl⟩,hk⟩;generalize th.hs.all (λ h=>!(bt v (aS h)))=b at hk ⊢;have AD:(Tm.lam v.x v.k v.t ab.1).dp<=61:=by simp only[fy];(apply kD;(apply cV<;>(first|exact hv|exact yt hm rfl)))
   have he:=lP (n+2) σ (.lam v.x v.k v.t ab.1) (.lam v.x v.k v.t ab.2) (by exact eI AD hn rfl) (by exact aj AD rfl);generalize ags (.lam v.x v.k v.t ab.1)=o at he ⊢;induction b with
   |false=>exact cr (n+2) 24 [.d (aV v),.d (dP th)] σ [.r _,.x _] od hk (ah σ)
   |true=>induction o<;>exact cr (n+2) 24 [.d (aV v),.d (dP th)] σ [.r _,.x _,.r _] od hk he (ah σ)
noncomputable def ez{α β:Type}(sp:α->β->Option α):α->List β->Option α
 |a,[]=>some a
 |a,x::xs=>(sp a x).bind λ b=>ez sp b xs
theorem WD:ez sp a ([])=(some a):=rfl
theorem WE:ez sp a (x::xs)=((sp a x).bind λ b=>ez sp b xs):=rfl
section
variable {body:agq->ae->XR} {t:Tg} {α β:Type} (enc:β->PyData) (step:α->β->Option α) (R:α->List β->agq->ae->Prop) (Er:ae->Prop)
def ahs(r:List β)(o:Option α)(x:XR):Prop:=match o with
 |some b=>∃fr σ,x=.next fr σ/\R b r fr σ
 |none=>∃σ,x=.err σ/\Er σ
theorem wo(hs:∀a x r fr σ,R a (x::r) fr σ->∃cQ,asg σ t (.d (enc x)) fr=some cQ/\ahs R Er r (step a x) (body cQ σ)):∀(items:List β) (a:α) (fr:agq) (σ:ae),R a items fr σ->ahs R Er [] (ez step a items) (bl body t (items.map enc) fr σ)
 |[],a,fr,σ,h=>⟨fr,σ,rfl,h⟩
 |x::xs,a,fr,σ,h=>by
  obtain⟨cQ,h1,h2⟩:=hs a x xs fr σ h
  (rewrite[List.map_cons,sU,h1,nK];(first|rw[WD]|rw[WE]))
  cases hq:step a x with
  |none=>
   rw[hq] at h2;obtain⟨aM,h3,h4⟩:=h2;exact⟨aM,by rw[h3];rfl,h4⟩
  |some b=>
   rw[hq] at h2;obtain⟨hG,σ2,h3,h4⟩:=h2;rw[h3,gZ];exact wo hs xs b hG σ2 h4
theorem C8(hk:∀a r fr σ,R a r fr σ->σ[k]?=some (.lst all))(hs:∀a x r fr σ,R a (x::r) fr σ->∃cQ,asg σ t (.d (enc x)) fr=some cQ/\ahs R Er r (step a x) (body cQ σ)):∀(items:List β) (i fuel:Nat) (a:α) (fr:agq) (σ:ae),all.drop i=items.map enc->items.length<fuel->R a items fr σ->ahs R Er [] (ez step a items) (fR body t k fuel i fr σ)
 |[],i,0,a,fr,σ,hd,hf,h=>by simp at hf
 |[],i,fuel+1,a,fr,σ,hd,hf,h=>by
  have:all[i]?=none:=by
   rw[List.getElem?_eq_none_iff];simpa using hd
  refine⟨fr,σ,?_,h⟩
  ((first|rewrite[yy]|rewrite[yz]);rw[hk a _ _ _ h]);dsimp only;rw[this]
 |x::xs,i,0,a,fr,σ,hd,hf,h=>by simp at hf
 |x::xs,i,fuel+1,a,fr,σ,hd,hf,h=>by
  have hi:all[i]?=some (enc x):=by
   have:=congrArg (λ l=>l[0]?) hd
   simpa using this
  have vE:all.drop (i+1)=xs.map enc:=by
   have:=congrArg List.tail hd
   simpa using this
  obtain⟨cQ,h1,h2⟩:=hs a x xs fr σ h
  ((first|rewrite[yy]|rewrite[yz]);rw[hk a _ _ _ h]);dsimp only;rw[hi];dsimp only;rw[h1];dsimp only
  (first|rw[WD]|rw[WE])
  cases hq:step a x with
  |none=>
   rw[hq] at h2;obtain⟨aM,h3,h4⟩:=h2;exact⟨aM,by rw[h3];rfl,h4⟩
  |some b=>
   rw[hq] at h2;obtain⟨hG,σ2,h3,h4⟩:=h2;rw[h3,gZ];exact C8 hk hs xs (i+1) fuel b hG σ2 vE (by simp at hf;exact hf) h4
theorem I3(h:σ[k]?=some (.lst xs)):mh body t fr (.loc k) σ=fR body t k (xs.length+1) 0 fr σ:=by unfold mh;dsimp only;rw[h];rfl
end
def gM(ps:List Tp)(v:Vr):Vr:=⟨v.x,v.k,eG ps v.t⟩
def fB(ps:List Tp)(o:List Vr)(v:Vr):Option (List Vr):=if bt (gM ps v) o then none else some (o++[gM ps v])
def agE(th:Th):List Vr:=aH th.c (th.hs.foldl (λ o t=>aH t o) [])
def ro(ps:List Tp)(th:Th):Option Th:=(ez (fB ps) [] (agE th)).map λ _=>⟨eU [] (th.hs.map (aY ps)),aY ps th.c⟩
theorem kT(h:∀p∈ps,p.2.dp<=D):∀s:Ty,(eG ps s).dp<=s.dp+D
 |.bool=>by simp[OG,Ii]
 |.ind=>by simp[OH,Ij]
 |.any n=>by
  have hl:∀(ps:List Tp),(∀p∈ps,p.2.dp<=D)->((qx n ps).getD (.any n)).dp<=D:=by
   intro ps;induction ps with
   |nil=>intro _;simp[QU,CW]
   |cons p r ih=>
    intro h;obtain⟨m,s⟩:=p
    (first|rw[QU]|rw[WB])
    split
    .exact h (m,s) dC
    .exact ih λ p hp=>h p (d8 _ hp)
  have:=hl ps h
  simp only[OE,CW];exact ao this (Nat.le_add_left D 0)
 |.fn a b=>by
  have:=kT h a;have:=kT h b
  simp only[OF,r9];with_reducible exact vy ‹_› this
theorem jT(h:∀p∈ps,p.2.dp<=D):∀t:Tm,(aY ps t).dp<=t.dp+D
 |.var x k t=>by have:=kT h t;simp only[aac,lM];exact this
 |.con x t=>by have:=kT h t;simp only[aad,iK];exact this
 |.app f a=>by have:=jT h f;have:=jT h a;simp only[aae,fx];with_reducible exact vy ‹_› this
 |.lam x k t b=>by have:=kT h t;have:=jT h b;simp only[aaf,fy];with_reducible exact vy ‹_› this
theorem C9:∀(t:Tm) (o:List Vr) (D:Nat),t.dp<=D->(∀v∈o,v.t.dp<=D)->∀v∈aH t o,v.t.dp<=D:=by
 intro t;have key:∀(w:Vr) (o:List Vr) (D:Nat),w.t.dp<=D->(∀v∈o,v.t.dp<=D)->∀v∈(if bt w o then o else o++[w]),v.t.dp<=D:=by
  intro w o D h ho v hv;split at hv
  .exact ho v hv
  .rcases bX.mp hv with q|q
   .exact ho v q
   .simp at q;subst q;exact h
 induction t with
 |var x k t=>intro o D h ho v hv;exact key ⟨x,k,t⟩ o D h ho v hv
 |con x t=>intro o D h ho v hv;exact ho v hv
 |app f a iX gd=>intro o D h ho v hv;simp only[fx] at h;exact gd _ D (by exact fm h) (iX o D (by exact g9 h) ho) v hv
 |lam x k t b ih=>
  intro o D h ho v hv;simp only[fy] at h;exact ih _ D (by exact fm h) (key ⟨x,k,t⟩ o D (by show t.dp<=D;exact g9 h) ho) v hv
theorem wq(σ:ae)(a b:agS):(σ++[a,b])[σ.length+1]?=some b:=by simp
theorem rp(σ:ae)(a b:agS):(σ++[a,b])[σ.length]?=some a:=by simp
theorem wt(σ:ae)(a b c:agS):(σ++[a,b]).set (σ.length+1) c=σ++[a,c]:=by
 rw[List.set_append_right _ _ (by exact kF)];simp
theorem pf(σ:ae)(a b:agS):(σ++[a,b]).take σ.length=σ:=by simp
theorem De(σ:ae)(a b:agS):(σ++[a])++[b]=σ++[a,b]:=by simp
abbrev Fw(ps:List Tp)(d:PyData)(σ:ae)(a b c e:Option V):agq:=[Dv (.tuple (ps.map rm)),Dv d,some (.loc σ.length),a,b,c,e]
abbrev FC(σ:ae)(p o:List Vr):ae:=σ++[.lst (p.map aV),.lst (o.map aV)]
abbrev WG(σ:ae)(p:List Vr):ae:=σ++[.lst (p.map aV)]
noncomputable def bW:List S:=[.assign (.var 6) (.call 16 [(.var 0),(.var 5)]),.ite (.cmp .mem (.var 6) (.var 4)) [.raise] [],.app 4 (.var 6)]
def WI(ps:List Tp)(d:PyData)(σ:ae)(a:Option V)(all o r:List Vr)(fr:agq)(s':ae):Prop:=(∃j1 j2,fr=Fw ps d σ a (some (.loc (σ.length+1))) j1 j2)/\s'=FC σ all o/\o.length+r.length<=200000/\∀v∈r,v.t.dp<=60
theorem EY(hp:∀p∈ps,p.2.dp<=20)(hn:100<=n)(I:WI ps d σ a all o (v::r) fr s'):∃cQ,asg s' (.var 5) (.d (aV v)) fr=some cQ/\ahs (WI ps d σ a all) (λ s'=>s'.take σ.length=σ) r (fB ps o v) (aD G (CF n) bW cQ s'):=by
 obtain⟨⟨j1,j2,rfl⟩,rfl,h3,h4⟩:=I;refine⟨Fw ps d σ a (some (.loc (σ.length+1))) (Dv (aV v)) j2,rfl,?_⟩;have hv:=h4 v dC;rw[List.length_cons] at h3;have J4:=pe ps v.x v.k v.t n (FC σ all o) (by exact eI hv hn rfl);have AD:=kT hp v.t;have eP:=wq σ (.lst (all.map aV)) (.lst (o.map aV));have hc:=(zH (d0 .mem) (aV (gM ps v)) eP).trans (congrArg (Bq _) (xB (x:=v.x) (k:=v.k) (t:=eG ps v.t) o (by exact fK AD hv rfl)));unfold fB gM at *;generalize bt ⟨v.x,v.k,eG ps v.t⟩ o=b at hc ⊢;induction b with
 |true=>exact⟨_,run G (CF n) bW (Fw ps d σ a (some (.loc (σ.length+1))) (Dv (aV v)) j2) (FC σ all o) [.r _,.r _] J4 hc,pf ..⟩
 |false=>
  have ha:=m9 (C:=CF n) (fr:=Fw ps d σ a (some (.loc (σ.length+1))) (Dv (aV v)) (Dv (aV ⟨v.x,v.k,eG ps v.t⟩))) (i:=4) (e:=.var 6) rfl rfl eP (show(o.map aV).length<=lim by simp[lim];exact eF h3 rfl);exact⟨_,_,run G (CF n) bW (Fw ps d σ a (some (.loc (σ.length+1))) (Dv (aV v)) j2) (FC σ all o) [.r _,.r _,.x _] J4 hc ha,⟨_,_,rfl⟩,by rw[wt,FC,List.map_append];rfl,by simp;exact mG h3,λ w hw=>h4 w (d8 _ hw)⟩
theorem EZ(ps:List Tp)(th:Th)(n:Nat)(σ:ae)(ht:oh th)(hp:∀p∈ps,p.2.dp<=20)(hn:200<=n):CF (n+1) 25 [.d (.tuple (ps.map rm)),.d (dP th)] σ=qz σ (ro ps th):=by
 obtain⟨n,rfl⟩:=aN (n:=n) (k:=0) (by exact gK hn rfl);have I2:=ht.len;have agw:∀(hs:List Tm) (o:List Vr),(∀h∈hs,Mo h)->(hs.foldl (λ o t=>aH t o) o).length<=o.length+500 * hs.length:=by
  intro hs;induction hs with
  |nil=>intro o _;simp
  |cons h hs ih=>
   intro o hh;have:=ih (aH h o) λ q hq=>hh q (d8 _ hq)
   have:=iT h o
   have:=(hh h dC).vs
   simp only[List.foldl_cons,List.length_cons];exact SM ‹_› ‹_› this
 have iM:=nc (body:=aD G (CF (n+1)) [.expr (.call 14 [(.var 3),(.var 2)])]) (t:=.var 3) ay
  (λ a:List Vr×Option V=>Fw ps (dP th) σ a.2 none none none) (λ a=>WG σ a.1) (λ a h=>(aH h a.1,Dv (ay h)))
  (λ a r=>(∀h∈r,Mo h)/\a.1.length+500 * r.length<=60000) (pv:=.d (.tuple (th.hs.map ay))) (items:=th.hs) (a:=([],none)) (.tuple _) (λ k all _ h=>nomatch h) ?_ ⟨ht.hs,by simp;exact pO I2 rfl⟩
 .have key:∀(hs:List Tm) (a:List Vr×Option V),(hs.foldl (λ(a:List Vr×Option V) h=>(aH h a.1,some (V.d (ay h)))) a).1=hs.foldl (λ o t=>aH t o) a.1:=by
   intro hs;induction hs with
   |nil=>intro a;rfl
   |cons b bs ih=>intro a;rw[List.foldl_cons,ih];rfl
  have QW:=key th.hs ([],none);generalize th.hs.foldl (λ(a:List Vr×Option V) h=>(aH h a.1,some (V.d (ay h)))) ([],none)=A at iM QW;have hAl:A.1.length<=60000:=by
   have:=agw th.hs [] ht.hs
   rw[QW];simp at this ⊢;exact F4 this I2 rfl
  have OI:aH th.c A.1=agE th:=by rw[QW];rfl
  have PG:(agE th).length<=101000:=by
   rw[←OI];have:=iT th.c A.1
   have:=ht.c.vs
   exact aj (ao ‹(aH th.c A.1).length<=_› (Nat.add_le_add hAl this)) rfl
  have Oh:=(nh th.c (n+1) (WG σ A.1) σ.length A.1 (by have:=ht.c.dp;exact eI this hn rfl) (by have:=ht.c.dp;exact aj this rfl) (dU σ _) (by have:=ht.c.vs;exact gI hAl this rfl)).trans (congrArg (Res.ok _) (jy ..));rw[OI] at Oh;have FE:∀v∈agE th,v.t.dp<=60:=by
   have hf:∀(hs:List Tm) (o:List Vr),(∀h∈hs,Mo h)->(∀v∈o,v.t.dp<=60)->∀v∈hs.foldl (λ o t=>aH t o) o,v.t.dp<=60:=by
    intro hs;induction hs with
    |nil=>intro o _ h;exact h
    |cons h hs ih=>intro o hh ho;exact ih _ (λ q hq=>hh q (d8 _ hq)) (C9 h o 60 (hh h dC).dp ho)
   exact C9 th.c _ 60 ht.c.dp (hf th.hs [] ht.hs λ _ h=>nomatch h)
  have zW:=C8 (body:=aD G (CF (n+1)) bW) (t:=.var 5) aV (fB ps) (WI ps (dP th) σ A.2 (agE th))
   (λ s'=>s'.take σ.length=σ) (k:=σ.length) (all:=(agE th).map aV) (λ a r fr s' h=>by rw[h.2.1,rp]) (λ _ _ _ _ _=>EY hp (by exact gK hn rfl)) (agE th) 0 (((agE th).map aV).length+1) [] (Fw ps (dP th) σ A.2 (some (.loc (σ.length+1))) none none) (FC σ (agE th) []) (by simp) (by simp) ⟨⟨none,none,rfl⟩,rfl,by simp;exact aj PG rfl,FE⟩
  rw[←I3 (rp σ _ _),←De] at zW;have hl:σ.length+1=(WG σ (agE th)).length:=by simp
  unfold ro;generalize ez (fB ps) [] (agE th)=fo at zW ⊢;induction fo with
  |none=>
   obtain⟨aM,h1,h2⟩:=zW;rw[hl] at h1;exact cr (n+1) 25 [.d (.tuple (ps.map rm)),.d (dP th)] σ [.x _,.r _,.x _] iM Oh h1 h2
  |some o=>
   obtain⟨aR,aM,h1,⟨j1,j2,rfl⟩,rfl,_,_⟩:=zW;have qv:evE G (CF (n+1)) (.comp 4 (.call 16 [(.var 0),(.var 8)]) (.var 8) (Qx 1 0) []) (Fw ps (dP th) σ A.2 (some (.loc (σ.length+1))) j1 j2) (FC σ (agE th) o) =
     .ok (.d (.list ((th.hs.map (aY ps)).map ay))) (FC σ (agE th) o):=by
    rw[o7];refine(nd (n:=4) ay (λ h=>some (ay (aY ps h))) (items:=th.hs) (d:=.tuple (th.hs.map ay)) rfl (by simp only[lim];exact aj I2 rfl) ?_).trans ?_
    .intro h hh;have J4:=jA ps h (n+1) (FC σ (agE th) o) (by have:=(ht.hs h hh).dp;exact eI this hn rfl);exact congrArg (λ r:Res V=>r.bind λ r σ=>match r with|.d z=>.ok (some z) σ | .loc _=>.stuck) (gR G (CF (n+1)) (.call 16 [(.var 0),(.var 8)]) (Fw ps (dP th) σ A.2 (some (.loc (σ.length+1))) j1 j2++[none,some (V.d (ay h)),none,none]) (FC σ (agE th) o) [.r _] J4)
    .rw[List.map_map];exact congrArg (λ l=>Res.ok (V.d (.list l)) _) (congrFun (List.filterMap_eq_map (f:=ay ∘ aY ps)) th.hs)
   have hj:=nO n (FC σ (agE th) o) [] (th.hs.map (aY ps)) (.tuple []) (.list ((th.hs.map (aY ps)).map ay)) rfl rfl (λ _ h=>nomatch h) ?_ (by simp;exact aj I2 rfl) (by exact gn hn rfl)
   .have J4:=jA ps th.c (n+1) (FC σ (agE th) o) (by have:=ht.c.dp;exact eI this hn rfl);rw[hl] at h1 qv;exact cr (n+1) 25 [.d (.tuple (ps.map rm)),.d (dP th)] σ [.x _,.r _,.x _,.r _,.r _,.r _] iM Oh h1 qv hj J4 (pf ..)
   .intro q hq;obtain⟨h,hh,rfl⟩:=gm.mp hq;have:=jT hp h
    have:=(ht.hs h hh).dp
    exact⟨by exact ao (aj (m:=199) (d7 (ao ‹_› (d7 this 20)) 5) rfl) (mD hn),by with_reducible exact fK ‹_› this rfl⟩
 .rintro⟨o,w⟩ h r ⟨h1,h2⟩;have wm:=h1 h dC;haveI h2:o.length+500 * (r.length+1)<=60000:=h2;have Oh:=(nh h (n+1) (WG σ o) σ.length o (by have:=wm.dp;exact eI this hn rfl) (by have:=wm.dp;exact aj this rfl) (dU σ _) (by have:=wm.vs;exact MP h2 this rfl)).trans (congrArg (Res.ok _) (jy ..));refine⟨Fw ps (dP th) σ (Dv (ay h)) none none none,rfl,run G (CF (n+1)) [.expr (.call 14 [(.var 3),(.var 2)])] (Fw ps (dP th) σ (Dv (ay h)) none none none) (WG σ o) [.r _] Oh,λ q hq=>h1 q (d8 _ hq),?_⟩;have:=iT h o
  have:=wm.vs
  dsimp only;with_reducible exact Su h2 ‹_› this
inductive mi where
 |refl (t:Tm)|assume (t:Tm)|beta (v:Vr) (t:Tm)|two (k:K2) (i j:Int)|abs (v:Vr) (i:Int)
 |inst (ps:List Pr) (i:Int)|insttype (ps:List Tp) (i:Int)|define (c:Cn) (t:Tm)|bad (i:Int)
noncomputable def mi.ctorIdx(t:mi):Nat:=t.casesOn (λ _=>0) (λ _=>1) (λ _ _=>2) (λ _ _ _=>3) (λ _ _=>4) (λ _ _=>5) (λ _ _=>6) (λ _ _=>7) (λ _=>8)
def bC:mi->PyData
 |.refl t=>.tuple [.str (st 11),ay t]
 |.assume t=>.tuple [.str (st 12),ay t]
 |.beta v t=>.tuple [.str (st 16),aV v,ay t]
 |.two k i j=>.tuple [.str (st k.i),.int i,.int j]
 |.abs v i=>.tuple [.str (st 6),aV v,.int i]
 |.inst ps i=>.tuple [.str (st 17),.tuple (ps.map sV),.int i]
 |.insttype ps i=>.tuple [.str (st 18),.tuple (ps.map rm),.int i]
 |.define c t=>.tuple [.str (st 19),.str (st c.i),ay t]
 |.bad i=>.tuple [.str (st 32),.int 0,.int i]
noncomputable def kU{α β:Type}(g:α->Option β):List α->Option (List β)
 |[]=>some []
 |x::xs=>(g x).bind λ y=>(kU g xs).map (y::·)
theorem L3:kU g ([])=(some []):=rfl
theorem L4:kU g (x::xs)=((g x).bind λ y=>(kU g xs).map (y::·)):=rfl
def nj(cs:iu)(ps:List Pr)(th:Th):Option Th:=
 if ps.all (λ p=>(agr cs p.2).isSome) then(kU (agR ps) th.hs).bind λ hs=>(agR ps th.c).map λ c=>⟨eU [] hs,c⟩ else none
def I4(cs:iu)(c:Cn)(t:Tm):Option (Th×iu):=(agr cs t).bind λ s=>
 if c.same .eq || (fO c cs).isSome || decide (0<(aS t).length) || ag3 t then none else(ags (.con c s)).map λ s'=>(⟨[],eqT s' (.con c s) t⟩,cs++[(c,s)])
noncomputable def dx(cs:iu):Option Th->Option (Th×iu)
 |some t=>some (t,cs)
 |none=>none
def gN(made:List Th)(cs:iu):mi->Option (Th×iu)
 |.refl t=>dx cs (nP cs 11 ⟨.x,0,.bool⟩ t)
 |.assume t=>dx cs (nP cs 12 ⟨.x,0,.bool⟩ t)
 |.beta v t=>dx cs (nP cs 16 v t)
 |.two k i j=>dx cs ((dX made i).bind λ l=>(dX made j).bind λ r=>eH k l r)
 |.abs v i=>dx cs ((dX made i).bind λ th=>qA v th)
 |.inst ps i=>dx cs ((dX made i).bind λ th=>nj cs ps th)
 |.insttype ps i=>dx cs ((dX made i).bind λ th=>ro ps th)
 |.define c t=>I4 cs c t
 |.bad _=>none
def bS(s:List Th×iu)(x:mi):Option (List Th×iu):=(gN s.1 s.2 x).map λ r=>(s.1++[r.1],r.2)
noncomputable def sg:mi->Prop
 |.refl t=>Mo t
 |.assume t=>Mo t
 |.beta v t=>Mo t/\v.t.dp<=60
 |.two _ _ _=>True
 |.abs v _=>v.t.dp<=60
 |.inst ps _=>(∀p∈ps,Mo p.2/\p.1.t.dp<=60/\p.2.sz<=100)/\ps.length<=100
 |.insttype ps _=>∀p∈ps,p.2.dp<=20
 |.define _ t=>Mo t
 |.bad _=>True
def ahk:List Th×iu->List mi->Prop
 |_,[]=>True
 |s,x::r=>sg x/\∀t,bS s x=some t->(∀th∈t.1,oh th)/\ahk t r
theorem zX{v:Vr}{D:Nat}:∀{ps:List Pr} {s:Tm},(∀p∈ps,p.2.dp<=D)->oH v ps=some s->s.dp<=D
 |[],s,_,h=>by cases h
 |(w,u)::r,s,hp,h=>by
  (first|rw[Wv] at h|rw[Ww] at h)
  split at h
  .obtain rfl:=bD h;exact hp (w,u) dC
  .exact zX (λ p hq=>hp p (d8 _ hq)) h
theorem QX(D:Nat):∀(t:Tm) (ps:List Pr),t.dp<=D->(∀p∈ps,p.2.dp<=D)->(put t ps).dp<=t.dp+D:=by
 intro t;induction t with
 |con x t=>intro ps _ _;simp[Bv,iK]
 |var x k t=>
  intro ps ht hp
  (first|rw[Bv]|rw[EM]|rw[EN]|rw[EO])
  cases h:oH ⟨x,k,t⟩ ps with
  |none=>simp[lM]
  |some s=>have:=zX hp h;simp[lM];exact ao this (Nat.le_add_left D _)
 |app f a iX gd=>
  intro ps ht hp;simp only[fx] at ht
  (first|rw[Bv]|rw[EM]|rw[EN]|rw[EO])
  split
  .simp[fx]
  .have:=iX ps (by exact g9 ht) hp;have:=gd ps (by exact fm ht) hp
   simp only[fx];with_reducible exact vy ‹_› this
 |lam x k t b ih=>
  intro ps ht hp;simp only[fy] at ht
  (first|rw[Bv]|rw[EM]|rw[EN]|rw[EO])
  split
  .simp[fy]
  .have Fu:∀p∈bH ⟨x,k,t⟩ (aS b) ps,p.2.dp<=D:=λ p hq=>hp p (wi hq);split
   .have:=ih (bH ⟨x,k,t⟩ (aS b) ps++[((⟨x,k,t⟩:Vr),Tm.var x (iF (agJ (aS b) (bH ⟨x,k,t⟩ (aS b) ps)) x 900 k) t)]) (by exact fm ht) (λ p hq=>by
     rcases bX.mp hq with q|q
     .exact Fu p q
     .simp at q;subst q;simp only[lM];exact g9 ht)
    simp only[fy];exact MQ this
   .have:=ih (bH ⟨x,k,t⟩ (aS b) ps) (by exact fm ht) Fu
    simp only[fy];exact MQ this
noncomputable def R9{α β:Type}(σ:ae)(f:α->β):Option α->Res β
 |some y=>.ok (f y) σ
 |none=>.err σ
theorem E0{β:Type}(enc:β->PyData)(g:β->Option PyData){f:PyData->ae->Res (Option PyData)}{σ:ae}:∀(items:List β),(∀x∈items,f (enc x) σ=R9 σ some (g x))->aA f (items.map enc) σ=R9 σ id (kU g items):=by
 intro items;induction items with
 |nil=>exact λ _=>rfl
 |cons x xs ih=>
  intro h
  (rewrite[List.map_cons];(first|rewrite[Gi]|rewrite[Gj]);rewrite[h x dC];(first|rw[L3]|rw[L4]))
  generalize g x=o;induction o with
  |none=>rfl
  |some y=>
   rw[show R9 σ some (some y)=.ok (some y) σ from rfl,Res.ax,Option.bind_some,ih λ y hy=>h y (d8 _ hy)];generalize kU g xs=o;induction o<;>rfl
theorem E1{G:List PyData}{C:aG}{fr:agq}{σ:ae}{n:Nat}{elt:E}{t:Tg}{ifs:List E}{β:Type}(enc:β->PyData)(g:β->Option PyData){items:List β}{d:PyData}(hd:agt d=some (items.map enc))(hl:items.length<=lim)(h:∀x∈items,((Res.of σ (asg σ t (.d (enc x)) (fr++List.replicate n none))).bind λ aR σ=>(dg G C ifs aR σ).bind λ b σ=>(Res.of σ (aP b)).bind λ b σ=>
      if b then(evE G C elt aR σ).bind λ r σ=>match r with
       |.d z=>.ok (some z) σ
       |.loc _=>.stuck
      else .ok none σ)=R9 σ some (g x)):zP G C n elt t ifs fr (.d d) σ=R9 σ (λ ys=>.d (.list ys)) (kU g items):=by
 unfold zP;dsimp only;rw[hd,Res.bx,Res.ax,if_pos (by simpa using hl),E0 enc g items h];generalize kU g items=o;induction o<;>rfl
theorem zY(g:Tm->Option Tm):∀l:List Tm,kU (λ x=>(g x).map ay) l=(kU g l).map λ ys=>ys.map ay
 |[]=>rfl
 |x::xs=>by
  ((first|rewrite[L3]|rewrite[L4]);(first|rewrite[L3]|rewrite[L4]);rw[zY g xs])
  cases g x with
  |none=>rfl
  |some y=>cases kU g xs<;>rfl
theorem zZ{α β:Type}{g:α->Option β}:∀{l:List α} {ys:List β},kU g l=some ys->ys.length=l.length/\∀y∈ys,∃x∈l,g x=some y
 |[],ys,h=>by cases h;simp
 |x::xs,ys,h=>by
  (first|rw[L3] at h|rw[L4] at h)
  cases hx:g x with
  |none=>rw[hx] at h;cases h
  |some y=>
   rw[hx] at h;simp only[Option.bind_some,Option.map_eq_some_iff] at h;obtain⟨zs,hz,rfl⟩:=h;obtain⟨h1,h2⟩:=zZ hz;refine⟨by simp[h1],λ w hw=>?_⟩;rcases e8.mp hw with rfl|hw
   .exact⟨x,dC,hx⟩
   .obtain⟨u,hu,e⟩:=h2 w hw;exact⟨u,d8 _ hu,e⟩
def BB(n:Nat)(x:PyData)(fr:agq)(k:V)(σ:ae):XR:=match k,σ[n]? with
    |.d (.str k),some (.dct fc)=>if(fc.lookup k).isNone/\fc.length<=lim then .next fr (σ.set n (.dct (fc++[(k,x)]))) else .stuck
    |_,_=>.stuck
def WH(G:List PyData)(C:aG)(k:E)(fr:agq)(n:Nat)(v:V)(σ:ae):XR:=match v with
 |.d x=>kt (BB n x fr) (evE G C k fr σ)
 |_=>.stuck
section
variable {G:List PyData}{C:aG}{fr:agq}{σ:ae}{m:Nat}
theorem QY{i:Nat}(k v:E)(h:fr[i]?=some (some (.loc m))):exS G C (.u4 i k v) fr σ=kt (WH G C k fr m) (evE G C v fr σ):=by
 (first|rw[cz,h]|rw[ja,h]|rw[fZ,h]|rw[kG,h]|rw[jc,h]|rw[ly,h]|rw[je,h]|rw[lz,h]|rw[hH,h]|rw[jf,h]|rw[jg,h]|rw[lA,h]|rw[gO,h]|rw[kH,h]|rw[jh,h])
 congr 1;funext v σ;induction v<;>rfl
theorem E2{x:PyData}{c:Cn}{cs:iu}(h:σ[m]?=some (.dct (zT cs)))(hl:fO c cs=none)(hn:cs.length<=1000):BB m x fr (.d (.str (st c.i))) σ=.next fr (σ.set m (.dct (zT cs++[(st c.i,x)]))):=by
 unfold BB;rw[h];dsimp only;rw[if_pos];rw[qy,hl];exact⟨rfl,by simp only[zT,bR,lim];exact aj hn rfl⟩
theorem QZ{i:Nat}(h:i<fr.length):exS G C (.wO i) fr σ=.next (fr.set i (some (.loc σ.length))) (σ++[.dct []]):=by(first|rw[cz,if_pos h]|rw[ja,if_pos h]|rw[fZ,if_pos h]|rw[kG,if_pos h]|rw[jc,if_pos h]|rw[ly,if_pos h]|rw[je,if_pos h]|rw[lz,if_pos h]|rw[hH,if_pos h]|rw[jf,if_pos h]|rw[jg,if_pos h]|rw[lA,if_pos h]|rw[gO,if_pos h]|rw[kH,if_pos h]|rw[jh,if_pos h])
def cA:E:=.cmp .mem (.var 4) (.tup [(Qs 11),(Qs 12),(Qs 16)])
noncomputable def XG:List S:=[.assign (.var 5) (.call 22 [(.var 4),(.var 3),(.var 2)])]
def cB:E:=.cmp .mem (.var 4) (.tup [(Qs 15),(Qs 7),(Qs 14),(Qs 13)])
def brB:List S:=[.assign (.var 5) (.call 23 [(.var 4),(.call 21 [(.var 1),(Qx 3 1)]),(.call 21 [(.var 1),(Qx 3 2)])])]
def cC:E:=.cmp .eq (.var 4) (Qs 6)
def brC:List S:=[.assign (.var 5) (.call 24 [(Qx 3 1),(.call 21 [(.var 1),(Qx 3 2)])])]
def cD:E:=.cmp .eq (.var 4) (Qs 17)
def brD:List S:=[.assign (.var 6) (.call 21 [(.var 1),(Qx 3 2)]),.i7 (.tup [(.var 7),(.var 8)]) (Qx 3 1) [.expr (.call 20 [(.var 2),(.var 8)])],.assign (.var 5) (.tup [(.call 12 [(.tup []),(.comp 4 (.call 7 [(Qx 3 1),(.var 11)]) (.var 11) (Qx 6 0) [])]),(.call 7 [(Qx 3 1),(Qx 6 1)])])]
def cE:E:=.cmp .eq (.var 4) (Qs 18)
def brE:List S:=[.assign (.var 5) (.call 25 [(Qx 3 1),(.call 21 [(.var 1),(Qx 3 2)])])]
def cF:E:=.cmp .eq (.var 4) (Qs 19)
def dfO:List E:=[(.cmp .eq (Qx 3 1) (Qs 5)),(.qW false (Qx 3 1) 2),(.cmp .gt (.len (.call 3 [(Qx 3 2)])) (Qi 0)),(.call 18 [(Qx 3 2)])]
def brF:List S:=[.assign (.var 9) (.call 20 [(.var 2),(Qx 3 2)]),.ite (.or dfO) [.raise] [],.u4 2 (Qx 3 1) (.var 9),.assign (.var 5) (.tup [(.tup []),(.call 8 [(.tup [(Qs 4),(Qx 3 1),(.var 9)]),(Qx 3 2)])])]
def pbF:List S:=[.ite cF brF [.raise]]
def pbE:List S:=[.ite cE brE pbF]
def pbD:List S:=[.ite cD brD pbE]
def pbC:List S:=[.ite cC brC pbD]
def XH:List S:=[.ite cB brB pbC]
def pbA:List S:=[.ite cA XG XH]
def pb:List S:=[.assign (.var 4) (Qx 3 0),.ite cA XG XH,.app 1 (.var 5)]
end
abbrev Fq(σ:ae)(agy:PyData)(k3 k4 k5 k6 k7 k8 k9:Option V:=none):agq:=[Dv agy,some (.loc σ.length),some (.loc (σ.length+1)),k3,k4,k5,k6,k7,k8,k9]
abbrev P2(σ:ae)(s:List Th×iu):ae:=σ++[.lst (s.1.map dP),.dct (zT s.2)]
theorem xJ(σ:ae)(s:List Th×iu):(P2 σ s)[σ.length]?=some (.lst (s.1.map dP)):=rp ..
theorem uC(σ:ae)(s:List Th×iu):(P2 σ s)[σ.length+1]?=some (.dct (zT s.2)):=wq ..
theorem Q0(σ:ae)(s:List Th×iu)(c:agS):(P2 σ s).set σ.length c=σ++[c,.dct (zT s.2)]:=by
 unfold P2;rw[List.set_append_right _ _ (cy _)];simp
theorem L5(σ:ae)(s:List Th×iu)(c:agS):(P2 σ s).set (σ.length+1) c=σ++[.lst (s.1.map dP),c]:=wt ..
theorem Df(σ:ae)(s:List Th×iu):(P2 σ s).take σ.length=σ:=pf ..
theorem kX(h:dX made i=some th):th∈made:=by
 unfold dX at h;split at h
 .cases h
 .exact dH h
theorem xK(r:XR):r.andThen (aD G C [])=r:=by cases r<;>rfl
theorem wu(h:evE G C c fr σ=.ok (.d (.bool true)) σ):aD G C [.ite c a b] fr σ=aD G C a fr σ:=by rw[Im,h,ZZ];exact xK _
theorem uD(h:evE G C c fr σ=.ok (.d (.bool false)) σ):aD G C [.ite c a b] fr σ=aD G C b fr σ:=by rw[Im,h,Z0];exact xK _
inductive F7(σ:ae)(agy:PyData):agq->Prop
 |mk (k3 k4 k5 k6 k7 k8 k9:Option V):F7 σ agy (Fq σ agy k3 k4 k5 k6 k7 k8 k9)
def TR(σ:ae)(agy:PyData)(o:Option (List Th×iu))(r:XR):Prop:=match o with
 |some t=>∃fr,r=.next fr (P2 σ t)/\F7 σ agy fr
 |none=>∃aM,r=.err aM/\aM.take σ.length=σ
theorem jU(h:r=.err (P2 σ s)):TR σ agy none r:=⟨P2 σ s,h,Df σ s⟩
theorem xM(hl:s.1.length<=500):exS G (CF n) (.app 1 (.var 5)) (Fq σ agy j3 j4 (Dv (dP th)) j6 j7 j8 j9) (P2 σ s)=.next (Fq σ agy j3 j4 (Dv (dP th)) j6 j7 j8 j9) (P2 σ (s.1++[th],s.2)):=
 (m9 (e:=.var 5) rfl rfl (xJ σ s) (show(s.1.map dP).length<=lim by simp[lim];exact aj hl rfl)).trans (congrArg (XR.next _) ((Q0 ..).trans (congrArg (λ l=>σ++[agS.lst l,.dct (zT s.2)]) (List.map_append (f:=dP) (l₁:=s.1) (l₂:=[th])).symm)))
theorem uE{σ:ae}{agy:PyData}{s:List Th×iu}(h:r=.next (Fq σ agy k3 k4 k5 k6 k7 k8 k9) (P2 σ (s.1++[th],s.2))):TR σ agy (some (s.1++[th],s.2)) r:=⟨_,h,.mk ..⟩
theorem nQ(hl:s.1.length<=500)(hd:aD G (CF n) pbA (Fq σ agy (Dv (.tuple (.str x::r))) (Dv (.str x)) j5 j6 j7 j8 j9) (P2 σ s)=aD G (CF n) [.assign (.var 5) e] (Fq σ agy (Dv (.tuple (.str x::r))) (Dv (.str x)) j5 j6 j7 j8 j9) (P2 σ s))(he:evE G (CF n) e (Fq σ agy (Dv (.tuple (.str x::r))) (Dv (.str x)) j5 j6 j7 j8 j9) (P2 σ s)=qz (P2 σ s) o):TR σ agy ((dx s.2 o).map λ r=>(s.1++[r.1],r.2)) (aD G (CF n) pb (Fq σ agy (Dv (.tuple (.str x::r))) j4 j5 j6 j7 j8 j9) (P2 σ s)):=by
 have h:aD G (CF n) pb (Fq σ agy (Dv (.tuple (.str x::r))) j4 j5 j6 j7 j8 j9) (P2 σ s)=(kA (aD G (CF n) []) (.var 5) (Fq σ agy (Dv (.tuple (.str x::r))) (Dv (.str x)) j5 j6 j7 j8 j9) (qz (P2 σ s) o)).andThen (aD G (CF n) [.app 1 (.var 5)]):=by
  rw[←he];show(exS G (CF n) (.ite cA XG XH) _ _).andThen _=(aD G (CF n) [.assign (.var 5) e] _ _).andThen _;rw[←hd];show _=((exS G (CF n) (.ite cA XG XH) _ _).andThen (aD G (CF n) [])).andThen _;rw[xK]
 rw[h];cases o with
 |none=>exact jU rfl
 |some th=>exact uE ((xK _).trans (xM hl))
set_option maxHeartbeats 1000000 in
theorem z0(n:Nat)(hn:400<=n)(σ:ae)(agy:PyData)(s:List Th×iu)(c:Cn)(t:Tm)(j4 j5 j6 j7 j8 j9:Option V)(hx':Mo t)(hl:s.1.length<=500)(hc:s.2.length<=500):TR σ agy ((I4 s.2 c t).map λ r=>(s.1++[r.1],r.2)) (aD G (CF (n+1)) pb (Fq σ agy (Dv (bC (.define c t))) j4 j5 j6 j7 j8 j9) (P2 σ s)):=by
 have hd:=hx'.dp;have h1:=gC s.2 t (n+1) (P2 σ s) (σ.length+1) (by exact yu hd hn rfl) (by exact aj hd rfl) (uC σ s);unfold I4;refine cq (M:=λ o=>agr s.2 t=o->_=zL _ o->TR σ agy ((o.bind _).map _) _) (agr s.2 t) (λ _ _ h1=>jU (run G (CF (n+1)) pb (Fq σ agy (Dv (bC (.define c t))) j4 j5 j6 j7 j8 j9) (P2 σ s) [.r _] h1)) (λ ty _ XI h1=>?_) rfl h1;have h2:=nN t (n+1) (P2 σ s) (by exact yu hd hn rfl) (by exact aj hd rfl) (by have:=hx'.sz;exact aj this rfl);have h3:=xE t (n+1) (P2 σ s) (by exact yu hd hn rfl);have Bt:=gB t [] [];have agw:gr (.list ((aS t).map aV))=some (.int (aS t).length):=by
  rw[agH _ (by have:=hx'.sz;simp only[List.length_nil,Nat.zero_add] at Bt;simp only[bR,lim];show(bq t [] []).length<=_;exact rQ Bt this rfl)];simp
 have WJ:ty.dp<=60:=by
  unfold agr at XI;split at XI
  .have:=rk XI;exact s8 this hd
  .cases XI
 have kS:i9 G (CF (n+1)) dfO (Fq σ agy (Dv (bC (.define c t))) (Dv (.str (st 19))) j5 j6 j7 j8 (Dv (cI ty))) (P2 σ s)=.ok (.d (.bool (c.same .eq || (fO c s.2).isSome || decide (0<(aS t).length) || ag3 t))) (P2 σ s):=by
  have e:∀a b c d:Bool,(a || (b || (c || (d || false))))=(a || b || c || d):=by decide
  rw[←e];refine zK ?_ (zK ?_ (zK ?_ (zK h3 rfl)))
  .exact congrArg (λ b=>Res.ok (V.d (.bool b)) _) (Ow c)
  .exact(IX ..).trans ((zU (ng:=false) (uC σ s)).trans (by rw[Bool.false_bne]))
  .refine(gR G (CF (n+1)) (.cmp .gt (.len (.call 3 [(Qx 3 2)])) (Qi 0)) (Fq σ agy (Dv (bC (.define c t))) (Dv (.str (st 19))) j5 j6 j7 j8 (Dv (cI ty))) (P2 σ s) [.r _,.o _,.o _] h2 agw (ahj _ _)).trans ?_;exact congrArg (λ b=>Res.ok (V.d (.bool b)) _) (by simp)
 rw[Option.bind_some];generalize hf:(c.same .eq || (fO c s.2).isSome || decide (0<(aS t).length) || ag3 t)=b at kS ⊢;induction b
 rotate_left
 .exact jU (run G (CF (n+1)) pb (Fq σ agy (Dv (bC (.define c t))) j4 j5 j6 j7 j8 j9) (P2 σ s) [.r _,.w _] h1 kS)
 .simp only[Bool.or_eq_false_iff] at hf;have hty:ags (.con c ty)=some ty:=by simp[ED,hf.1.1.1]
  have he:=lP (n+1) (P2 σ (s.1,s.2++[(c,ty)])) (.con c ty) t (by simp only[iK];exact yu WJ hn rfl) (by simp only[iK];exact aj WJ rfl);rw[hty] at he;rw[if_neg (by simp),hty];have lL:exS G (CF (n+1)) (.u4 2 (Qx 3 1) (.var 9)) (Fq σ agy (Dv (bC (.define c t))) (Dv (.str (st 19))) j5 j6 j7 j8 (Dv (cI ty))) (P2 σ s)=.next (Fq σ agy (Dv (bC (.define c t))) (Dv (.str (st 19))) j5 j6 j7 j8 (Dv (cI ty))) (P2 σ (s.1,s.2++[(c,ty)])):=by
   rw[QY _ _ rfl];refine(E2 (m:=σ.length+1) (x:=cI ty) (c:=c) (σ:=P2 σ s) (cs:=s.2) (uC σ s) (by simpa using hf.1.1.2) (by exact aj hc rfl)).trans ?_;rw[L5];simp[P2,zT]
  exact uE (s:=(s.1,s.2++[(c,ty)])) (run G (CF (n+1)) pb (Fq σ agy (Dv (bC (.define c t))) j4 j5 j6 j7 j8 j9) (P2 σ s) [.r _,.w _,.x _,.r _,.x _] h1 kS lL he (xM (s:=(s.1,s.2++[(c,ty)])) (th:=⟨[],eqT ty (.con c ty) t⟩) hl))
theorem E3(n:Nat)(hn:400<=n)(σ:ae)(agy:PyData)(s:List Th×iu)(ps:List Pr)(i:Int)(j4 j5 j6 j7 j8 j9:Option V)(A8:∀p∈ps,Mo p.2/\p.1.t.dp<=60/\p.2.sz<=100)(Kk:ps.length<=100)(hm:∀th∈s.1,oh th)(hl:s.1.length<=500)(xN:∀{i o},dX s.1 i=o->CF (n+1) 21 [.loc σ.length,.d (.int i)] (P2 σ s)=qz (P2 σ s) o):TR σ agy ((dx s.2 ((dX s.1 i).bind λ th=>nj s.2 ps th)).map λ r=>(s.1++[r.1],r.2)) (aD G (CF (n+1)) pb (Fq σ agy (Dv (bC (.inst ps i))) j4 j5 j6 j7 j8 j9) (P2 σ s)):=by
 refine cq (dX s.1 i) (λ h1=>jU (run G (CF (n+1)) pb (Fq σ agy (Dv (bC (.inst ps i))) j4 j5 j6 j7 j8 j9) (P2 σ s) [.r _] (xN h1))) λ l h1=>?_;have XJ:=hm l (kX h1);have I2:=XJ.len;have hg:=xN h1;rw[Option.bind_some,nj];have Lc:∀t,Mo t->CF (n+1) 7 [.d (.tuple (ps.map sV)),.d (ay t)] (P2 σ s)=ahu (P2 σ s) (agR ps t):=λ t ht=>
  zR 60 (n+1) (P2 σ s) ps t 100 ⟨ht.dp,by exact lZ rfl,by have:=ht.dp;exact M8 this hn rfl,by have:=ht.sz;exact aj this rfl,λ p hp=>⟨(A8 p hp).1.dp,(A8 p hp).2.1,(A8 p hp).2.2,(A8 p hp).1.pk⟩,by have:=ht.dp;exact gI Kk this rfl,ht.pk,by have:=ht.dp;exact aj (eB this 100) rfl⟩ (by have:=ht.dp;exact M8 this hn rfl) (.tuple (ps.map sV)) rfl
 refine Exists.elim (rl (body:=aD G (CF (n+1)) [.expr (.call 20 [(.var 2),(.var 8)])]) (t:=.tup [.var 7,.var 8]) (σ:=P2 σ s) sV (λ p=>(agr s.2 p.2).isSome)
  (λ fr=>∃a b,fr=(Fq σ agy (Dv (bC (.inst ps i))) (Dv (.str (st 17))) j5 (Dv (dP l)) a b j9)) (d:=.tuple (ps.map sV)) (items:=ps) rfl
  (fr:=(Fq σ agy (Dv (bC (.inst ps i))) (Dv (.str (st 17))) j5 (Dv (dP l)) j7 j8 j9)) ⟨j7,j8,rfl⟩ ?_) ?_
 .rintro fr p hp ⟨a,b,rfl⟩;have wm:=(A8 p hp).1;have pK:=gC s.2 p.2 (n+1) (P2 σ s) (σ.length+1) (by have:=wm.dp;exact yu this hn rfl) (by have:=wm.dp;exact aj this rfl) (uC σ s);refine⟨(Fq σ agy (Dv (bC (.inst ps i))) (Dv (.str (st 17))) j5 (Dv (dP l)) (Dv (aV p.1)) (Dv (ay p.2)) j9),rfl,?_⟩;generalize agr s.2 p.2=o at pK ⊢;induction o with
  |none=>exact run G (CF (n+1)) [.expr (.call 20 [(.var 2),(.var 8)])] (Fq σ agy (Dv (bC (.inst ps i))) (Dv (.str (st 17))) j5 (Dv (dP l)) (Dv (aV p.1)) (Dv (ay p.2)) j9) (P2 σ s) [.r _] pK
  |some ty=>exact⟨_,⟨Dv (aV p.1),Dv (ay p.2),rfl⟩,run G (CF (n+1)) [.expr (.call 20 [(.var 2),(.var 8)])] (Fq σ agy (Dv (bC (.inst ps i))) (Dv (.str (st 17))) j5 (Dv (dP l)) (Dv (aV p.1)) (Dv (ay p.2)) j9) (P2 σ s) [.r _] pK⟩
 .rintro aR ⟨⟨a,b,rfl⟩,hk⟩;generalize ps.all (λ p=>(agr s.2 p.2).isSome)=ba at hk ⊢;induction ba with
  |false=>exact jU (run G (CF (n+1)) pb (Fq σ agy (Dv (bC (.inst ps i))) j4 j5 j6 j7 j8 j9) (P2 σ s) [.r _,.x _] hg hk)
  |true=>
   have qv:evE G (CF (n+1)) (.comp 4 (.call 7 [(Qx 3 1),(.var 11)]) (.var 11) (Qx 6 0) []) (Fq σ agy (Dv (bC (.inst ps i))) (Dv (.str (st 17))) j5 (Dv (dP l)) a b j9) (P2 σ s) =
     R9 (P2 σ s) (λ ys=>.d (.list (ys.map ay))) (kU (agR ps) l.hs):=by
    rw[o7];refine(E1 (n:=4) ay (λ h=>(agR ps h).map ay) (items:=l.hs) (d:=.tuple (l.hs.map ay)) rfl (by simp only[lim];exact aj I2 rfl) ?_).trans ?_
    .intro h hh;have J4:=Lc h (XJ.hs h hh);generalize agR ps h=o at J4 ⊢;have hr:evE G (CF (n+1)) (.call 7 [(Qx 3 1),(.var 11)]) (Fq σ agy (Dv (bC (.inst ps i))) (Dv (.str (st 17))) j5 (Dv (dP l)) a b j9++[none,some (V.d (ay h)),none,none]) (P2 σ s)=ahu (P2 σ s) o:=gR G (CF (n+1)) (.call 7 [(Qx 3 1),(.var 11)]) (Fq σ agy (Dv (bC (.inst ps i))) (Dv (.str (st 17))) j5 (Dv (dP l)) a b j9++[none,some (V.d (ay h)),none,none]) (P2 σ s) [.r _] J4;refine(congrArg (λ r:Res V=>r.bind λ r σ=>match r with|.d z=>.ok (some z) σ | .loc _=>.stuck) hr).trans ?_;induction o<;>rfl
    .rw[zY];induction kU (agR ps) l.hs<;>rfl
   rw[if_pos rfl];generalize wm:kU (agR ps) l.hs=o at qv ⊢;induction o with
   |none=>exact jU (run G (CF (n+1)) pb (Fq σ agy (Dv (bC (.inst ps i))) j4 j5 j6 j7 j8 j9) (P2 σ s) [.r _,.x _,.r _] hg hk qv)
   |some ys=>
    obtain⟨m1,m2⟩:=zZ wm;have hj:=nO n (P2 σ s) [] ys (.tuple []) (.list (ys.map ay)) rfl rfl (λ _ h=>nomatch h) ?_ (by simp;exact s6 m1 I2 rfl) (by exact gK hn rfl)
    .have hpc:=Lc l.c XJ.c;rw[Option.bind_some];generalize agR ps l.c=oc at hpc ⊢;induction oc with
     |none=>exact jU (run G (CF (n+1)) pb (Fq σ agy (Dv (bC (.inst ps i))) j4 j5 j6 j7 j8 j9) (P2 σ s) [.r _,.x _,.r _,.r _,.r _] hg hk qv hj hpc)
     |some c'=>exact uE (s:=s) (run G (CF (n+1)) pb (Fq σ agy (Dv (bC (.inst ps i))) j4 j5 j6 j7 j8 j9) (P2 σ s) [.r _,.x _,.r _,.r _,.r _,.x _] hg hk qv hj hpc (xM (s:=s) (th:=⟨eU [] ys,c'⟩) hl))
    .intro q hq;obtain⟨h,hh,he⟩:=m2 q hq;unfold agR at he;split at he
     .cases he;have hd:=(XJ.hs h hh).dp;have:=QX 60 h ps hd λ p hp=>(A8 p hp).1.dp
      exact⟨by exact Sv this hd hn rfl,by exact fK this hd rfl⟩
     .cases he
theorem L6(n:Nat)(hn:400<=n)(σ:ae)(agy:PyData)(s:List Th×iu)(x:mi)(j4 j5 j6 j7 j8 j9:Option V)(hx:sg x)(hm:∀th∈s.1,oh th)(hl:s.1.length<=500)(hc:s.2.length<=500):TR σ agy (bS s x) (aD G (CF (n+1)) pb (Fq σ agy (Dv (bC x)) j4 j5 j6 j7 j8 j9) (P2 σ s)):=by
 have xN:∀{i o},dX s.1 i=o->CF (n+1) 21 [.loc σ.length,.d (.int i)] (P2 σ s)=qz (P2 σ s) o:=λ{i o} h=>(xI n (P2 σ s) σ.length s.1 i (xJ σ s) (by exact aj hl rfl)).trans (congrArg _ h);have h4:400<=n:=hn;induction x with
 |refl t=>exact nQ hl (wu rfl) (EW s.2 t n (P2 σ s) (σ.length+1) hx (by exact gK h4 rfl) (uC σ s))
 |assume t=>exact nQ hl (wu rfl) (zV s.2 t n (P2 σ s) (σ.length+1) hx (by exact gK h4 rfl) (uC σ s))
 |beta v t=>exact nQ hl (wu rfl) (EX s.2 v t n (P2 σ s) (σ.length+1) hx.1 hx.2 (by exact gK h4 rfl) (uC σ s))
 |two k i j=>
  refine nQ (e:=.call 23 [(.var 4),(.call 21 [(.var 1),(Qx 3 1)]),(.call 21 [(.var 1),(Qx 3 2)])]) hl (by induction k<;>exact(uD rfl).trans (wu rfl)) ?_;refine cq (dX s.1 i) (λ h1=>Z5 (xN h1) rfl) λ l h1=>cq (dX s.1 j) (λ h2=>Z6 (xN h1) (xN h2) rfl) λ r h2=>gE3 (xN h1) (xN h2) (I0 k l r n (P2 σ s) (hm l (kX h1)) (hm r (kX h2)) (by exact gK h4 rfl)) rfl
 |abs v i=>
  refine nQ hl ((uD rfl).trans ((uD rfl).trans (wu rfl))) (cq (dX s.1 i) (λ h1=>Z5 (xN h1) rfl) λ l h1=>Z6 (xN h1) (BA v l n (P2 σ s) (hm l (kX h1)) hx (by exact gK h4 rfl)) rfl)
 |insttype ps i=>
  refine nQ hl ((uD rfl).trans ((uD rfl).trans ((uD rfl).trans ((uD rfl).trans (wu rfl))))) (cq (dX s.1 i) (λ h1=>Z5 (xN h1) rfl) λ l h1=>Z6 (xN h1) (EZ ps l n (P2 σ s) (hm l (kX h1)) hx (by exact gK h4 rfl)) rfl)
 |define c t=>exact z0 n hn σ agy s c t j4 j5 j6 j7 j8 j9 hx hl hc
 |inst ps i=>exact E3 n hn σ agy s ps i j4 j5 j6 j7 j8 j9 hx.1 hx.2 hm hl xN
 |bad i=>exact jU (run G (CF (n+1)) pb (Fq σ agy (Dv (bC (.bad i))) j4 j5 j6 j7 j8 j9) (P2 σ s) [])
inductive PV(σ:ae)(agy:PyData)(s:List Th×iu)(r:List mi):agq->ae->Prop
 |mk {fr:agq} (f:F7 σ agy fr) (hg:ahk s r) (hm:∀th∈s.1,oh th) (h1:s.1.length+r.length<=400) (h2:s.2.length+r.length<=400):PV σ agy s r fr (P2 σ s)
theorem gS(h:dx cs o=some u):u.2.length<=cs.length+1:=by
 induction o with
 |none=>cases h
 |some t=>cases h;exact Nat.le_succ _
theorem E4(hu:gN made cs x=some u):u.2.length<=cs.length+1:=by
 induction x with
 |define c t=>
  obtain⟨ty,_,hu⟩:=Option.bind_eq_some_iff.mp hu;split at hu
  .cases hu
  .obtain⟨s',_,rfl⟩:=Option.map_eq_some_iff.mp hu;simp
 |bad i=>cases hu
 |refl t=>exact gS hu
 |assume t=>exact gS hu
 |beta v t=>exact gS hu
 |two k i j=>exact gS hu
 |abs v i=>exact gS hu
 |insttype ps i=>exact gS hu
 |inst ps i=>exact gS hu
theorem BC(n:Nat)(hn:400<=n)(σ:ae)(ai:List mi)(hl:ai.length<=400)(hg:ahk ([],[]) ai):CF (n+2) 26 [.d (.tuple (ai.map bC))] σ=match ez bS ([],[]) ai with|some t=>.ok (.d (.list (t.1.map dP))) σ|none=>.err σ:=by
 have gP:exS G (CF (n+1)) (.wO 2) [Dv (.tuple (ai.map bC)),some (.loc σ.length),none,none,none,none,none,none,none,none] (σ++[.lst []])=.next (Fq σ (.tuple (ai.map bC))) (σ++[.lst [],.dct []]):=by
  rw[QZ (by simp),De,cO];rfl
 have zW:=wo (body:=aD G (CF (n+1)) pb) (t:=.var 3) bC bS
  (λ(s:List Th×iu) r fr s'=>PV σ (.tuple (ai.map bC)) s r fr s')
  (λ s'=>s'.take σ.length=σ) ?_ ai ([],[]) (Fq σ (.tuple (ai.map bC))) (σ++[.lst [],.dct []]) (.mk (.mk none none none none none none none) hg (λ th h=>by cases h) (by simpa using hl) (by simpa using hl))
 .generalize ez bS ([],[]) ai=o at zW ⊢;induction o with
  |none=>
   obtain⟨aM,h1,h2⟩:=zW;exact(congrArg (agO σ.length) (run G (CF (n+1)) ZV [Dv (.tuple (ai.map bC)),none,none,none,none,none,none,none,none,none] σ [.x _,.x _] gP h1)).trans (congrArg Res.err h2)
  |some t=>
   obtain⟨aR,aM,h1,R7⟩:=zW;obtain⟨⟨k3,k4,k5,k6,k7,k8,k9⟩,_,_,_,_⟩:=R7;refine(congrArg (agO σ.length) (run G (CF (n+1)) ZV [Dv (.tuple (ai.map bC)),none,none,none,none,none,none,none,none,none] σ [.x _,.x _] gP h1)).trans ?_;unfold agO;dsimp only;rw[if_neg (Nat.lt_irrefl _),xJ σ t,Df]
 .rintro s x r fr s' ⟨⟨k3,k4,k5,k6,k7,k8,k9⟩,hg,hm,h1,h2⟩;rw[List.length_cons] at h1 h2;refine⟨(Fq σ (.tuple (ai.map bC)) (Dv (bC x)) k4 k5 k6 k7 k8 k9),rfl,?_⟩;have ht:=L6 n hn σ (.tuple (ai.map bC)) s x k4 k5 k6 k7 k8 k9 hg.1 hm (by exact eF h1 rfl) (by exact eF h2 rfl);have R2:=hg.2;generalize hr:bS s x=o at ht R2 ⊢;induction o with
  |none=>exact ht
  |some t=>
   obtain⟨aR,he,hf7⟩:=ht;obtain⟨u,hu,ht⟩:=Option.map_eq_some_iff.mp hr;have hz:=E4 hu;refine⟨_,_,he,.mk hf7 (R2 t rfl).2 (R2 t rfl).1 ?_ ?_⟩
   .rw[←ht];simp;exact mG h1
   .rw[←ht];dsimp only;exact ao (d7 hz _) (ao (bV (gk ..)) h2)
set_option genInjectivity true in
inductive Nl where
 |vr (x:Bs) (k:Nat) (t:Ty)
 |cn (c:Cn)
 |bd (n:Nat)
 |app (f a:Nl)
 |lam (t:Ty) (b:Nl)
 |equ (t:Ty) (a b:Nl)
noncomputable def Nl.ctorIdx(t:Nl):Nat:=t.casesOn (λ _ _ _=>0) (λ _=>1) (λ _=>2) (λ _ _=>3) (λ _ _=>4) (λ _ _ _=>5)
def pL:Nl->PyData
 |.vr x k t=>.tuple [.str (st 3),.str (nm x k),cI t]
 |.cn c=>.str (st c.i)
 |.bd n=>.tuple [.str (st 8),.int n]
 |.app f a=>.tuple [.str (st 43),pL f,pL a]
 |.lam t b=>.tuple [.str (st 44),cI t,pL b]
 |.equ t a b=>.tuple [.str (st 45),cI t,pL a,pL b]
theorem wx:pL (.vr x k t)=(.tuple [.str (st 3),.str (nm x k),cI t]):=rfl
theorem wy:pL (.cn c)=(.str (st c.i)):=rfl
theorem uF:pL (.bd n)=(.tuple [.str (st 8),.int n]):=rfl
theorem wz:pL (.app f a)=(.tuple [.str (st 43),pL f,pL a]):=rfl
theorem wA:pL (.lam t b)=(.tuple [.str (st 44),cI t,pL b]):=rfl
theorem wB:pL (.equ t a b)=(.tuple [.str (st 45),cI t,pL a,pL b]):=rfl
structure Wt where
 tm:Tm
 nl:Nl
 ty:Ty
 fv:List Vr
 bv:List Vr
def eW(w:Wt):PyData:=.tuple [ay w.tm,pL w.nl,cI w.ty,.tuple (w.fv.map aV),.tuple (w.bv.map aV)]
noncomputable def BD:Ty->Ty
 |.fn _ b=>b
 |t=>t
noncomputable def eL(x:Bs)(k:Nat)(t:Ty):Wt:=⟨.var x k t,.vr x k t,t,[⟨x,k,t⟩],[]⟩
noncomputable def iU(x:Bs)(k:Nat)(t:Ty)(n:Nat):Wt:=⟨.var x k t,.bd n,t,[],[⟨x,k,t⟩]⟩
section
variable {C:aG}{fr:agq}{n:Nat}{elt it qQ it2:E}{β γ:Type}{xs:List PyData}{op:Cm}
def cP(f a:Wt):Wt:=⟨.app f.tm a.tm,.app f.nl a.nl,BD f.ty,f.fv++a.fv,f.bv++a.bv⟩
noncomputable def gg(x:Bs)(k:Nat)(t:Ty)(b:Wt):Wt:=⟨.lam x k t b.tm,.lam t b.nl,.fn t b.ty,b.fv,⟨x,k,t⟩::b.bv⟩
def bG(a b:Wt):Wt:=⟨eqT a.ty a.tm b.tm,.equ a.ty a.nl b.nl,.bool,a.fv++b.fv,a.bv++b.bv⟩
inductive Mf where
 |jV (a b c:Wt)
 |eq (l r:Mf)
noncomputable def Mf.ctorIdx(t:Mf):Nat:=t.casesOn (λ _ _ _=>0) (λ _ _=>1)
def Mf.w0:Mf->Wt
 |.jV a _ _=>a
 |.eq l r=>bG l.w0 r.w0
theorem Dg:Mf.w0 (.jV a u1 u2)=(a):=rfl
def Mf.w1:Mf->Wt
 |.jV _ a _=>a
 |.eq l r=>bG l.w1 r.w1
theorem Dh:Mf.w1 (.jV u1 a u2)=(a):=rfl
def Mf.w2:Mf->Wt
 |.jV _ _ a=>a
 |.eq l r=>bG l.w2 r.w2
theorem Di:Mf.w2 (.jV u1 u2 a)=(a):=rfl
def bf:Mf->PyData
 |.jV a b c=>.tuple [eW a,eW b,eW c,.none,.none]
 |.eq l r=>.tuple [eW (bG l.w0 r.w0),eW (bG l.w1 r.w1),eW (bG l.w2 r.w2),bf l,bf r]
theorem wC:bf (.eq l r)=(.tuple [eW (bG l.w0 r.w0),eW (bG l.w1 r.w1),eW (bG l.w2 r.w2),bf l,bf r]):=rfl
structure Tt where
 hs:List Mf
 c:Mf
def iB(t:Tt):PyData:=.tuple [.list (t.hs.map bf),bf t.c]
structure WL(w:Wt):Prop where
 fv:w.fv.length<=1000
 bv:w.bv.length<=1000
theorem ix(n:Nat)(σ:ae)(x:Bs)(k:Nat)(t:Ty):CF (n+1) 27 [.d (.str (nm x k)),.d (cI t)] σ=.ok (.d (eW (eL x k t))) σ:=
 jS (run G (CF n) Oj [Dv (.str (nm x k)),Dv (cI t)] σ [])
theorem lR(n:Nat)(σ:ae)(x:Bs)(k:Nat)(t:Ty)(i:Nat):CF (n+1) 28 [.d (.str (nm x k)),.d (cI t),.d (.int i)] σ=.ok (.d (eW (iU x k t i))) σ:=
 jS (run G (CF n) V1 [Dv (.str (nm x k)),Dv (cI t),Iv i] σ [])
theorem pg{a b:List Vr}(ha:a.length<=1000)(hb:b.length<=1000):agK .add (.tuple (a.map aV)) (.tuple (b.map aV))=some (.tuple ((a++b).map aV)):=by
 show(if(a.map aV).length+(b.map aV).length<=lim then some (PyData.tuple (a.map aV++b.map aV)) else none)=_;rw[if_pos (by simp only[lim,bR];exact gI ha hb rfl),List.map_append]
theorem fC(n:Nat)(σ:ae)(f a:Wt){d c:Ty}(hf:f.ty=.fn d c)(lf:WL f)(la:WL a):CF (n+1) 29 [.d (eW f),.d (eW a)] σ=.ok (.d (eW (cP f a))) σ:=by
 obtain⟨ft,fn,ty,fv,fb⟩:=f;cases hf;exact jS (run G (CF n) J6 [Dv (eW ⟨ft,fn,.fn d c,fv,fb⟩),Dv (eW a)] σ [.o _,.o _] (pg lf.fv la.fv) (pg lf.bv la.bv))
theorem gD(n:Nat)(σ:ae)(x:Bs)(k:Nat)(t:Ty)(b:Wt)(lb:WL b):CF (n+1) 30 [.d (.str (nm x k)),.d (cI t),.d (eW b)] σ=.ok (.d (eW (gg x k t b))) σ:=
 jS (run G (CF n) Ol [Dv (.str (nm x k)),Dv (cI t),Dv (eW b)] σ [.o _] (pg (a:=[⟨x,k,t⟩]) (by simp) lb.bv))
theorem kY(n:Nat)(σ:ae)(a b:Wt)(la:WL a)(lb:WL b):CF (n+1) 31 [.d (eW a),.d (eW b)] σ=.ok (.d (eW (bG a b))) σ:=
 jS (run G (CF n) b31 [Dv (eW a),Dv (eW b)] σ [.o _,.o _] (pg la.fv lb.fv) (pg la.bv lb.bv))
structure ML(m:Mf):Prop where
 w0:WL m.w0
 w1:WL m.w1
 w2:WL m.w2
theorem eA(m:Mf):∃l r,bf m=.tuple [eW m.w0,eW m.w1,eW m.w2,l,r]:=by
 induction m with
 |jV a b c=>exact⟨_,_,rfl⟩
 |eq l r=>exact⟨_,_,rfl⟩
theorem fD(n:Nat)(σ:ae)(a b:Mf)(la:ML a)(lb:ML b):CF (n+2) 32 [.d (bf a),.d (bf b)] σ=.ok (.d (bf (.eq a b))) σ:=by
 obtain⟨a1,a2,ea⟩:=eA a;obtain⟨b1,b2,eb⟩:=eA b;show _=Res.ok (V.d (.tuple [eW (bG a.w0 b.w0),eW (bG a.w1 b.w1),eW (bG a.w2 b.w2),bf a,bf b])) σ;rw[ea,eb];exact jS (run G (CF (n+1)) V2 [Dv (.tuple [eW a.w0,eW a.w1,eW a.w2,a1,a2]),Dv (.tuple [eW b.w0,eW b.w1,eW b.w2,b1,b2])] σ [.r _,.r _,.r _] (kY n σ a.w0 b.w0 la.w0 lb.w0) (kY n σ a.w1 b.w1 la.w1 lb.w1) (kY n σ a.w2 b.w2 la.w2 lb.w2))
def ahd(t:Ty):Prop:=∃d c,t=.fn d c
def oj(a b:Mf):Mf:=.jV (cP a.w0 b.w0) (cP a.w1 b.w1) (cP a.w2 b.w2)
theorem E5(n:Nat)(σ:ae)(a b:Mf)(la:ML a)(lb:ML b)(h0:ahd a.w0.ty)(h1:ahd a.w1.ty)(h2:ahd a.w2.ty):CF (n+2) 33 [.d (bf a),.d (bf b)] σ=.ok (.d (bf (oj a b))) σ:=by
 obtain⟨a1,a2,ea⟩:=eA a;obtain⟨b1,b2,eb⟩:=eA b;obtain⟨_,_,h0⟩:=h0;obtain⟨_,_,h1⟩:=h1;obtain⟨_,_,h2⟩:=h2;simp only[ea,eb];exact jS (run G (CF (n+1)) V3 [Dv (.tuple [eW a.w0,eW a.w1,eW a.w2,a1,a2]),Dv (.tuple [eW b.w0,eW b.w1,eW b.w2,b1,b2])] σ [.r _,.r _,.r _] (fC n σ a.w0 b.w0 h0 la.w0 lb.w0) (fC n σ a.w1 b.w1 h1 la.w1 lb.w1) (fC n σ a.w2 b.w2 h2 la.w2 lb.w2))
def z6(x y:Bs)(i:Nat):Wt:=gg x 0 .bool (gg y 0 .bool (iU (if i=0 then y else x) 0 .bool i))
theorem xO(x:Bs)(k:Nat)(t:Ty)(i:Nat):WL (iU x k t i):=⟨by simp[iU],by simp[iU]⟩
theorem nk(x:Bs)(k:Nat)(t:Ty):WL (eL x k t):=⟨by simp[eL],by simp[eL]⟩
theorem nR(n:Nat)(σ:ae)(x y:Bs)(i:Nat)(hi:i=0\/i=1):CF (n+2) 34 [.d (.str (nm x 0)),.d (.str (nm y 0)),.d (.int i)] σ=.ok (.d (eW (z6 x y i))) σ:=by
 haveI hb:WL (iU (if i=0 then y else x) 0 .bool i):=xO ..;haveI h1:=lR n σ (if i=0 then y else x) 0 .bool i;haveI h2:=gD n σ y 0 .bool _ hb;haveI h3:=gD n σ x 0 .bool (gg y 0 .bool (iU (if i=0 then y else x) 0 .bool i)) ⟨by simp[gg,iU],by simp[gg,iU]⟩;rcases hi with rfl|rfl
 .exact jS (run G (CF (n+1)) R8 [Dv (.str (nm x 0)),Dv (.str (nm y 0)),Iv 0] σ [.o _,.r _,.r _,.r _] rfl h1 h2 h3)
 .exact jS (run G (CF (n+1)) R8 [Dv (.str (nm x 0)),Dv (.str (nm y 0)),Iv 1] σ [.o _,.r _,.r _,.r _] rfl h1 h2 h3)
def ph(a:Wt):Wt:=cP (gg .y 0 .bool a) (eL .y 0 .bool)
theorem pq(n:Nat)(σ:ae)(a:Wt)(la:WL a)(lb:a.bv.length<=900):CF (n+2) 37 [.d (eW a)] σ=.ok (.d (eW (ph a))) σ:=
 jS (run G (CF (n+1)) b37 [Dv (eW a)] σ [.r _,.r _,.r _] (gD n σ .y 0 .bool a la) (ix n σ .y 0 .bool) (fC n σ (gg .y 0 .bool a) (eL .y 0 .bool) rfl ⟨la.fv,by simp[gg];exact aj lb rfl⟩ (nk ..)))
theorem sW{σ:ae}{t:Tg}(enc f:β->PyData){items:List β}{d:PyData}(hit:evE G C it fr σ=.ok (.d d) σ)(hd:agt d=some (items.map enc))(hl:items.length<=lim)(h:∀x∈items,((Res.of σ (asg σ t (.d (enc x)) (fr++List.replicate n none))).bind λ aR σ=>(evE G C elt aR σ).bind λ r σ=>match r with
       |.d z=>.ok (some z) σ
       |.loc _=>.stuck)=.ok (some (f x)) σ):evE G C (.comp n elt t it []) fr σ=.ok (.d (.list (items.map f))) σ:=by
 rw[o7,hit,zG,nd (G:=G) (C:=C) (fr:=fr) (σ:=σ) (n:=n) (elt:=elt) (t:=t) (ifs:=[]) enc (λ x=>some (f x)) hd hl (λ x hx=>h x hx)];exact congrArg (λ l=>Res.ok (V.d (.list l)) σ) (congrFun (List.filterMap_eq_map (f:=f)) items)
theorem L7{x:Bs}{k:Nat}{t:Ty}(l:List Vr)(h:t.dp<=900):d0 .mem (.tuple [.str (st 3),.str (nm x k),cI t]) (.tuple (l.map aV))=some (.bool (bt ⟨x,k,t⟩ l)):=by
 have:=xB (x:=x) (k:=k) l h
 exact this
def nq(o:Nx)(l:List Vr)(k:Nat):Nat:=if bt ⟨.x,0,.bool⟩ l then(if o8 .x k (o::l.map kR) then k+1 else k) else k
def jW(o:Nx)(l:List Vr):Nat:=nq o l (nq o l (nq o l 0))
def qB:List S:=[.ite (.and [(.cmp .mem (.tup [(Qs 3),(Qs 22),(.glob 1)]) (.var 1)),(.cmp .mem (.var 2) (.bin .add (.lst [(.var 0)]) (.comp 2 (Qx 5 1) (.var 5) (.var 1) [])))]) [.assign (.var 2) (.bin .add (.var 2) (Qs 9))] []]
theorem z7(o:Nx)(l:List Vr)(k:Nat):nq o l k<=k+1:=by
 unfold nq;split
 .split<;>(first|exact kF|lia)
 .exact kF
theorem nr(n:Nat)(σ:ae)(o:Nx)(l:List Vr)(hl:l.length<=1000)(k:Nat)(hk:k<=10)(j:Option V):aD G (CF n) qB [Dv (lu o),Dv (.tuple (l.map aV)),Dv (.str (nm .x k)),j] σ=.next [Dv (lu o),Dv (.tuple (l.map aV)),Dv (.str (nm .x (nq o l k))),j] σ:=by
 have h1:=L7 (x:=.x) (k:=0) (t:=.bool) l (by decide);unfold nq;cases hm:bt ⟨.x,0,.bool⟩ l with
 |false=>
  rw[hm] at h1;exact run G (CF n) qB [Dv (lu o),Dv (.tuple (l.map aV)),Dv (.str (nm .x k)),j] σ [.o _] h1
 |true=>
  rw[hm] at h1;have hc:evE G (CF n) (.comp 2 (Qx 5 1) (.var 5) (.var 1) []) [Dv (lu o),Dv (.tuple (l.map aV)),Dv (.str (nm .x k)),j] σ=.ok (.d (.list (l.map λ v=>lu (kR v)))) σ:=
   sW aV (λ v=>lu (kR v)) rfl rfl (by simp only[lim];exact aj hl rfl) λ v _=>rfl
  have ha:agK .add (.list [lu o]) (.list (l.map λ v=>lu (kR v)))=some (.list ((o::l.map kR).map lu)):=by
   rw[ij (by simp only[lim,bR,List.length_cons,List.length_nil];exact aj (eB hl _) rfl),List.map_cons,List.map_map];rfl
  have h2:=IH .x k (o::l.map kR);cases hq:o8 .x k (o::l.map kR) with
  |false=>
   rw[hq] at h2;exact run G (CF n) qB [Dv (lu o),Dv (.tuple (l.map aV)),Dv (.str (nm .x k)),j] σ [.o _,.r _,.o _,.o _] h1 hc ha h2
  |true=>
   rw[hq] at h2;have e9:(st 9).length=1:=by decide
   have h3:agK .add (.str (nm .x k)) (.str (st 9))=some (.str (nm .x (k+1))):=by
    rw[add_str (by rw[II,e9];simp only[lim];exact aj (cv (cv hk)) rfl)];rfl
   exact run G (CF n) qB [Dv (lu o),Dv (.tuple (l.map aV)),Dv (.str (nm .x k)),j] σ [.o _,.r _,.o _,.o _,.o _] h1 hc ha h2 h3
theorem sh(n:Nat)(σ:ae)(o:Nx)(l:List Vr)(hl:l.length<=1000):CF (n+1) 35 [.d (lu o),.d (.tuple (l.map aV))] σ=.ok (.d (.str (nm .x (jW o l)))) σ:=by
 have b1:=z7 o l 0;have b2:=z7 o l (nq o l 0);have wj:zI (aD G (CF n) qB) 3 [Dv (lu o),Dv (.tuple (l.map aV)),Dv (.str (nm .x 0)),none] [.d (.int 3)] σ=.next [Dv (lu o),Dv (.tuple (l.map aV)),Dv (.str (nm .x (jW o l))),Iv 2] σ:=by
  show bl (aD G (CF n) qB) (.var 3) [.int 0,.int 1,.int 2] [Dv (lu o),Dv (.tuple (l.map aV)),Dv (.str (nm .x 0)),none] σ=_;show(aD G (CF n) qB [Dv (lu o),Dv (.tuple (l.map aV)),Dv (.str (nm .x 0)),Iv 0] σ).andThen _=_;rw[nr n σ o l hl 0 (by exact dk)];show(aD G (CF n) qB [Dv (lu o),Dv (.tuple (l.map aV)),Dv (.str (nm .x (nq o l 0))),Iv 1] σ).andThen _=_;rw[nr n σ o l hl _ (by exact aj b1 rfl)];show(aD G (CF n) qB [Dv (lu o),Dv (.tuple (l.map aV)),some (.d (.str (nm .x (nq o l (nq o l 0))))),Iv 2] σ).andThen _=_;rw[nr n σ o l hl _ (by exact fK b2 b1 rfl)];rfl
 exact jS (run G (CF n) b35 [Dv (lu o),Dv (.tuple (l.map aV)),none,none] σ [.x _] wj)
theorem WK:st 24=nm .x 1:=by decide
noncomputable def two:Ty:=.fn .bool (.fn .bool .bool)
def kW:Wt:=⟨.con .K two,.cn .K,two,[],[]⟩
def nW:Wt:=⟨.con .N two,.cn .N,two,[],[]⟩
def g0W(u:Wt)(a:Nat):Wt:=gg .x a .bool (cP (cP kW u) (iU .x a .bool 0))
def g1W(u:Wt):Wt:=gg .y 0 .bool (cP (cP kW u) (iU .y 0 .bool 0))
def g2W(w:Wt)(b:Nat):Wt:=gg .x b .bool (bG w (iU .x b .bool 0))
def uG(u w e:Wt)(t:Ty):List Wt:=
 [e,u,w,cP (cP kW u) w,cP (eL .f 0 (.fn t .bool)) (eL .z 0 t),eL .z 0 .bool,gg .z 0 t (eL .z 0 .bool),g0W u (jW (.p,0) u.fv),g1W u,g2W w (jW (.x,1) w.fv)]
structure WS(w:Wt):Prop where
 fv:w.fv.length<=100
 bv:w.bv.length<=100
theorem WS.wl{w:Wt}(h:WS w):WL w:=⟨by have:=h.fv;exact aj this rfl,by have:=h.bv;exact aj this rfl⟩
theorem pz(n:Nat)(σ:ae)(u w e:Wt)(t:Ty)(hu:WS u)(hw:WS w):CF (n+2) 36 [.d (eW u),.d (eW w),.d (eW e),.d (cI t)] σ=.ok (.d (.list ((uG u w e t).map eW))) σ:=by
 have u1:=hu.fv;have u2:=hu.bv;have w1:=hw.fv;have w2:=hw.bv;have hku:WL (cP kW u):=⟨by simp[cP,kW];exact aj u1 rfl,by simp[cP,kW];exact aj u2 rfl⟩;have QO:=hw.wl;have h1:=fC n σ kW u rfl ⟨by simp[kW],by simp[kW]⟩ hu.wl;have h2:=ix n σ .z 0 .bool;have h3:=ix n σ .f 0 (.fn t .bool);have h4:=sh n σ (.p,0) u.fv hu.wl.fv;have h5:=sh n σ (.x,1) w.fv QO.fv;have e5:lu (.x,1)=.str (st 24):=by rw[WK];rfl
 rw[e5] at h5;generalize ha:jW (.p,0) u.fv=a at h4;generalize hb:jW (.x,1) w.fv=b at h5;have h6:=lR n σ .x a .bool 0;have h7:=fC n σ (cP kW u) (iU .x a .bool 0) rfl hku (xO ..);have h8:=gD n σ .x a .bool (cP (cP kW u) (iU .x a .bool 0)) ⟨by simp[cP,kW,iU];exact aj u1 rfl,by simp[cP,kW,iU];exact aj u2 rfl⟩;have h9:=lR n σ .y 0 .bool 0;have Q1:=fC n σ (cP kW u) (iU .y 0 .bool 0) rfl hku (xO ..);have h11:=gD n σ .y 0 .bool (cP (cP kW u) (iU .y 0 .bool 0)) ⟨by simp[cP,kW,iU];exact aj u1 rfl,by simp[cP,kW,iU];exact aj u2 rfl⟩;have h12:=lR n σ .x b .bool 0;have XD:=kY n σ w (iU .x b .bool 0) QO (xO ..);have h14:=gD n σ .x b .bool (bG w (iU .x b .bool 0)) ⟨by simp[bG,iU];exact aj w1 rfl,by simp[bG,iU];exact aj w2 rfl⟩;have h15:=fC n σ (cP kW u) w rfl hku QO;have h16:=ix n σ .z 0 t;have h17:=fC n σ (eL .f 0 (.fn t .bool)) (eL .z 0 t) rfl (nk ..) (nk ..);have R3:=gD n σ .z 0 t (eL .z 0 .bool) (nk ..);unfold uG;rw[ha,hb];exact jS (run G (CF (n+1)) b36 [Dv (eW u),Dv (eW w),Dv (eW e),Dv (cI t),none,none,none,none,none,none,none,none] σ
  [.r _,.r _,.r _,.r _,.r _,.r _,.r _,.r _,.r _,.r _,.r _,.r _,.r _,.r _,.r _,.r _,.r _,.r _] h1 h2 h3 h4 h5 h6 h7 h8 h9 Q1 h11 h12 XD h14 h15 h16 h17 R3)
noncomputable def Nl.eq:Nl->Nl->Bool
 |.vr x k t,e=>match e with
  |.vr y l u=>x.same y&&k==l&&t.eq u
  |_=>false
 |.cn x,e=>match e with
  |.cn y=>x.same y
  |_=>false
 |.bd i,e=>match e with
  |.bd j=>i==j
  |_=>false
 |.app f a,e=>match e with
  |.app g b=>f.eq g&&a.eq b
  |_=>false
 |.lam t a,e=>match e with
  |.lam u b=>t.eq u&&a.eq b
  |_=>false
 |.equ t a b,e=>match e with
  |.equ u c d=>t.eq u&&(a.eq c&&b.eq d)
  |_=>false
theorem OJ:Nl.eq (.vr x k t) e=(match e with
  |.vr y l u=>x.same y&&k==l&&t.eq u
  |_=>false):=rfl
theorem OK:Nl.eq (.cn x) e=(match e with
  |.cn y=>x.same y
  |_=>false):=rfl
theorem OL:Nl.eq (.bd i) e=(match e with
  |.bd j=>i==j
  |_=>false):=rfl
theorem OM:Nl.eq (.app f a) e=(match e with
  |.app g b=>f.eq g&&a.eq b
  |_=>false):=rfl
theorem ON:Nl.eq (.lam t a) e=(match e with
  |.lam u b=>t.eq u&&a.eq b
  |_=>false):=rfl
theorem OO:Nl.eq (.equ t a b) e=(match e with
  |.equ u c d=>t.eq u&&(a.eq c&&b.eq d)
  |_=>false):=rfl
theorem Nl.eq_iff:∀{a b:Nl},a.eq b=true↔a=b:=by
 intro a;induction a with
 |vr x k t=>intro b;induction b<;>simp[OJ,Bs.same_iff,Ty.eq_iff,and_assoc]
 |cn x=>intro b;induction b<;>simp[OK,Cn.same_iff]
 |bd i=>intro b;induction b<;>simp[OL]
 |app f a iX gd=>intro b;induction b<;>simp[OM,iX,gd]
 |lam t a ih=>intro b;induction b<;>simp[ON,Ty.eq_iff,ih]
 |equ t a b gd Ez=>intro b;induction b<;>simp[OO,Ty.eq_iff,gd,Ez]
theorem BE:∀a b:Nl,PyData.eqv (pL a) (pL b)=a.eq b:=by
 intro a;induction a with
 |vr x k t=>intro b;induction b<;>simp[wx,wy,uF,wz,wA,wB,OJ,dZ,eK,wb,fw,di,oE,oG,ig,CT,iE,Bool.and_assoc]
 |cn x=>intro b;induction b<;>simp[wx,wy,uF,wz,wA,wB,OK,dZ,Oq,CU]
 |bd i=>intro b;induction b<;>simp[wx,wy,uF,wz,wA,wB,OL,dZ,eK,wb,Bu,fw,di,oE,ig];rw[Bool.eq_iff_iff];simp;exact MT
 |app f a iX gd=>intro b;induction b<;>simp[wx,wy,uF,wz,wA,wB,OM,dZ,eK,wb,fw,di,oE,oG,ig,iX,gd]
 |lam t a ih=>intro b;induction b<;>simp[wx,wy,uF,wz,wA,wB,ON,dZ,eK,wb,fw,di,oE,oG,ig,iE,ih]
 |equ t a b gd Ez=>intro b;induction b<;>simp[wx,wy,uF,wz,wA,wB,OO,dZ,eK,wb,fw,di,oG,ig,iE,gd,Ez]
noncomputable def Nl.dp:Nl->Nat
 |.vr _ _ t=>t.dp
 |.cn _=>0
 |.bd _=>0
 |.app f a=>max f.dp a.dp+1
 |.lam t b=>max t.dp b.dp+1
 |.equ t a b=>max t.dp (max a.dp b.dp)+1
theorem mxz{x y k:Nat}(h:x<=k)(g:y<=k):max 0 (max x (max y 0))+1<=k+1:=cv (Nat.max_le.mpr ⟨dJ _,Nat.max_le.mpr ⟨h,Nat.max_le.mpr ⟨g,dJ _⟩⟩⟩)
theorem XK{x a b:Nat}(h:x<=a+2):x<=max a b+2:=ao h (d7 (i6 _ _) 2)
theorem WM{x a b:Nat}(h:x<=b+2):x<=max a b+2:=ao h (d7 (jH _ _) 2)
theorem iy:∀t:Nl,(pL t).depth<=t.dp+2
 |.vr x k t=>mxz (k:=t.dp+1) (dJ _) (dm t)
 |.cn c=>dJ _
 |.bd i=>by simp[uF,u5,Xl,wQ,vA,uW]
 |.app f a=>mxz (k:=max f.dp a.dp+2) (XK (iy f)) (WM (iy a))
 |.lam t b=>mxz (k:=max t.dp b.dp+2) (XK (eR (dm t))) (WM (iy b))
 |.equ t a b=>cv (Nat.max_le.mpr ⟨dJ _,Nat.max_le.mpr ⟨XK (eR (dm t)),Nat.max_le.mpr ⟨WM (XK (iy a)),Nat.max_le.mpr ⟨WM (WM (iy b)),dJ _⟩⟩⟩⟩:_<=max t.dp (max a.dp b.dp)+2)
noncomputable def lS(a:Nl)(l:List Nl):Bool:=l.any λ b=>b.eq a
theorem I5(a:Nl):∀l:List Nl,((l.map pL).any λ y=>PyData.eqv y (pL a))=lS a l
 |[]=>rfl
 |b::l=>by rw[List.map_cons,List.any_cons,I5 a l,BE];rfl
theorem L8(a:Nl)(l:List Nl)(h:a.dp<=900):d0 .nZ (pL a) (.list (l.map pL))=some (.bool (!lS a l)):=by
 have hd:=iy a;refine cN _ _ _ ?_;show(rU _ _).map _=_;rw[sH,if_pos (.inl (by simp only[fj];exact fK hd h rfl)),I5];rfl
theorem I6(a b:Nl)(h:a.dp<=900):d0 .eq (pL a) (pL b)=some (.bool (a.eq b)):=by
 have hd:=iy a;refine cN _ _ _ ?_;rw[oB,if_pos (.inr (by simp only[fj];exact fK hd h rfl)),BE]
theorem Dj(a b:Nl)(h:a.dp<=900):d0 .ne (pL a) (pL b)=some (.bool (!a.eq b)):=by
 have hd:=iy a;refine cN _ _ _ ?_;rw[vB,if_pos (.inr (by simp only[fj];exact fK hd h rfl)),BE]
noncomputable def Mf.w(m:Mf):Nat->Wt
 |0=>m.w0
 |1=>m.w1
 |_=>m.w2
theorem xP(m:Mf){i:Nat}(hi:i<=2):dD (bf m) (.int i)=some (eW (m.w i)):=by
 obtain⟨l,r,e⟩:=eA m;rw[e];have:i=0\/i=1\/i=2:=by lia
 rcases this with rfl|rfl|rfl<;>rfl
def agM(i:Nat)(a b:List Mf):List Mf:=b.foldl (λ out m=>if lS (m.w i).nl (out.map λ o=>(o.w i).nl) then out else out++[m]) a
theorem nS(i:Nat):∀(b a:List Mf),(agM i a b).length<=a.length+b.length:=by
 intro b;induction b with
 |nil=>intro a;simp[agM]
 |cons m b ih=>
  intro a;have:=ih (if lS (m.w i).nl (a.map λ o=>(o.w i).nl) then a else a++[m])
  unfold agM at this ⊢;rw[List.foldl_cons];refine ao this ?_;split<;>simp<;>exact bV (gk ..)
theorem I7{σ:ae}{k:Nat}{t:Tg}(enc f:β->PyData){items:List β}(hit:evE G C it fr σ=.ok (.loc k) σ)(hd:σ[k]?=some (.lst (items.map enc)))(hl:items.length<=lim)(hp:agF elt=true)(h:∀x∈items,((Res.of σ (asg σ t (.d (enc x)) (fr++List.replicate n none))).bind λ aR σ=>(evE G C elt aR σ).bind λ r σ=>match r with
       |.d z=>.ok (some z) σ
       |.loc _=>.stuck)=.ok (some (f x)) σ):evE G C (.comp n elt t it []) fr σ=.ok (.d (.list (items.map f))) σ:=by
 rw[o7,hit,zG];show(Res.of σ (rV σ k)).bind _=_;unfold rV;rw[hd];show(if(agF elt&&true)=true/\(items.map enc).length<=lim then _ else _)=_;rw[if_pos ⟨by rw[hp];rfl,by rw[bR];exact hl⟩,agZ enc (λ x=>some (f x)) items h];exact congrArg (λ l=>Res.ok (V.d (.list l)) σ) (congrFun (List.filterMap_eq_map (f:=f)) items)
theorem I8{σ:ae}{i j:Nat}{d:PyData}(hj:fr[j]?=some (Dv d))(hd:agt d=some xs)(hi:i<fr.length)(hl:xs.length<=lim):exS G C (.newOf i (.var j)) fr σ=.next (fr.set i (some (.loc σ.length))) (σ++[.lst xs]):=by
 (first|rw[cz,iL,hj,cH]|rw[ja,iL,hj,cH]|rw[fZ,iL,hj,cH]|rw[kG,iL,hj,cH]|rw[jc,iL,hj,cH]|rw[ly,iL,hj,cH]|rw[je,iL,hj,cH]|rw[lz,iL,hj,cH]|rw[hH,iL,hj,cH]|rw[jf,iL,hj,cH]|rw[jg,iL,hj,cH]|rw[lA,iL,hj,cH]|rw[gO,iL,hj,cH]|rw[kH,iL,hj,cH]|rw[jh,iL,hj,cH])
 rw[Res.gW,show aE σ (.d d)=some d from rfl,Res.bx,Res.gW,hd,Res.bx,Res.gW];rw[if_pos ⟨hi,hl⟩]
def Dk:List S:=[.ite (.cmp .nZ (.idx (.idx (.var 4) (.var 2)) (Qi 1)) (.comp 3 (.idx (.idx (.var 6) (.var 2)) (Qi 1)) (.var 6) (.var 3) [])) [.app 3 (.var 4)] []]
def MD(i:Nat)(m:Mf):Prop:=(m.w i).nl.dp<=900
theorem E6(n:Nat)(σ:ae)(da db:PyData)(i:Nat)(hi:i<=2)(out:List Mf)(m:Mf)(hm:MD i m)(hl:out.length<=1000):aD G (CF n) Dk [Dv da,Dv db,Iv i,some (.loc σ.length),Dv (bf m)] (σ++[.lst (out.map bf)]) =
   .next [Dv da,Dv db,Iv i,some (.loc σ.length),Dv (bf m)] (σ++[.lst ((if lS (m.w i).nl (out.map λ o=>(o.w i).nl) then out else out++[m]).map bf)]):=by
 have h1:=xP m hi;have hc:evE G (CF n) (.comp 3 (.idx (.idx (.var 6) (.var 2)) (Qi 1)) (.var 6) (.var 3) []) [Dv da,Dv db,Iv i,some (.loc σ.length),Dv (bf m)] (σ++[.lst (out.map bf)])=.ok (.d (.list ((out.map λ o=>(o.w i).nl).map pL))) (σ++[.lst (out.map bf)]):=by
  rw[List.map_map];refine I7 bf (pL ∘ λ o=>(o.w i).nl) rfl (dU σ _) (by simp only[lim];exact aj hl rfl) rfl λ o _=>?_;have ho:=xP o hi;have hr:=gR G (CF n) (.idx (.idx (.var 6) (.var 2)) (Qi 1)) [Dv da,Dv db,Iv i,some (.loc σ.length),Dv (bf m),none,Dv (bf o),none] (σ++[agS.lst (out.map bf)]) [.o _] ho;show(evE G (CF n) (.idx (.idx (.var 6) (.var 2)) (Qi 1)) [Dv da,Dv db,Iv i,some (.loc σ.length),Dv (bf m),none,Dv (bf o),none] (σ++[.lst (out.map bf)])).bind _=_;rw[hr];rfl
 have h2:=L8 (m.w i).nl (out.map λ o=>(o.w i).nl) hm;cases hq:lS (m.w i).nl (out.map λ o=>(o.w i).nl) with
 |true=>
  rw[hq] at h2;exact run G (CF n) Dk [Dv da,Dv db,Iv i,some (.loc σ.length),Dv (bf m)] (σ++[agS.lst (out.map bf)]) [.o _,.r _,.o _] h1 hc h2
 |false=>
  rw[hq] at h2;have ha:exS G (CF n) (.app 3 (.var 4)) [Dv da,Dv db,Iv i,some (.loc σ.length),Dv (bf m)] (σ++[.lst (out.map bf)])=.next [Dv da,Dv db,Iv i,some (.loc σ.length),Dv (bf m)] (σ++[.lst ((out++[m]).map bf)]):=by
   rw[zM _ rfl (dU σ _)];show EF σ.length _ (.d (bf m)) _=_;rw[qr _ (dU σ _) (by simp only[lim,bR];exact aj hl rfl),jy,List.map_append];rfl
  exact run G (CF n) Dk [Dv da,Dv db,Iv i,some (.loc σ.length),Dv (bf m)] (σ++[agS.lst (out.map bf)]) [.o _,.r _,.o _,.x _] h1 hc h2 ha
theorem pA(n:Nat)(σ:ae)(as bs:List Mf)(i:Nat)(hi:i<=2)(hb:∀m∈bs,MD i m)(hl:as.length+bs.length<=1000):CF (n+1) 38 [.d (.list (as.map bf)),.d (.list (bs.map bf)),.d (.int i)] σ=.ok (.d (.list ((agM i as bs).map bf))) σ:=by
 have h1:exS G (CF n) (.newOf 3 (.var 0)) [Dv (.list (as.map bf)),Dv (.list (bs.map bf)),Iv i,none,none] σ=.next [Dv (.list (as.map bf)),Dv (.list (bs.map bf)),Iv i,some (.loc σ.length),none] (σ++[agS.lst (as.map bf)]):=
  I8 rfl rfl (by simp) (by simp only[lim,bR];exact eF hl rfl)
 have iM:=nc (body:=aD G (CF n) Dk) (t:=.var 4) bf
  (λ a:List Mf×Option V=>[Dv (.list (as.map bf)),Dv (.list (bs.map bf)),Iv i,some (.loc σ.length),a.2]) (λ a=>σ++[agS.lst (a.1.map bf)]) (λ a m=>(if lS (m.w i).nl (a.1.map λ o=>(o.w i).nl) then a.1 else a.1++[m],Dv (bf m)))
  (λ a r=>(∀m∈r,MD i m)/\a.1.length+r.length<=1000) (pv:=.d (.list (bs.map bf))) (items:=bs) (a:=(as,none)) (.list _) (λ k all _ h=>by cases h) ?_ ⟨hb,hl⟩
 .have key:∀(bs:List Mf) (a:List Mf×Option V),(bs.foldl (λ(a:List Mf×Option V) m=>(if lS (m.w i).nl (a.1.map λ o=>(o.w i).nl) then a.1 else a.1++[m],some (V.d (bf m)))) a).1=agM i a.1 bs:=by
   intro bs;induction bs with
   |nil=>intro a;rfl
   |cons b bs ih=>intro a;rw[List.foldl_cons,ih];rfl
  dsimp only at iM;rw[key] at iM;have hr:=run G (CF n) ZW [Dv (.list (as.map bf)),Dv (.list (bs.map bf)),Iv i,none,none] σ [.x _,.x _] h1 iM;show agO σ.length (aD G (CF n) ZW [Dv (.list (as.map bf)),Dv (.list (bs.map bf)),Iv i,none,none] σ)=_;rw[hr];exact we σ _
 .rintro⟨o,w⟩ m r ⟨h1,h2⟩;dsimp only at h2;rw[List.length_cons] at h2;refine⟨_,rfl,E6 n σ _ _ i hi o m (h1 m dC) (by exact eF h2 rfl),λ q hq=>h1 q (d8 _ hq),?_⟩;dsimp only;split
  .exact yr h2
  .simp only[cO,List.length_cons,List.length_nil];exact mG h2
def nt(i:Nat)(t:Tt):List Tm:=(agM i [] t.hs).map λ m=>(m.w i).tm
theorem pB(xs:List PyData)(h:xs.length<=lim):gX (.list xs)=some (.tuple xs):=ux rfl h
theorem lT(n:Nat)(σ:ae)(t:Tt)(i:Nat)(hi:i<=2)(hb:∀m∈t.hs,MD i m)(hl:t.hs.length<=1000):CF (n+2) 39 [.d (iB t),.d (.int i)] σ=.ok (.d (dP ⟨nt i t,(t.c.w i).tm⟩)) σ:=by
 have h1:=pA n σ [] t.hs i hi hb (by simpa using hl);have agw:=nS i t.hs [];rw[List.length_nil] at agw;have hc:evE G (CF (n+1)) (.comp 3 (.idx (.idx (.var 3) (.var 1)) (Qi 0)) (.var 3) (.call 38 [(.lst []),(Qx 0 0),(.var 1)]) []) [Dv (iB t),Iv i] σ=.ok (.d (.list ((agM i [] t.hs).map λ m=>ay (m.w i).tm))) σ:=by
  refine sW bf (λ m=>ay (m.w i).tm) (gR G (CF (n+1)) (.call 38 [(.lst []),(Qx 0 0),(.var 1)]) [Dv (iB t),Iv i] σ [.r _] h1) rfl (by simp only[lim];exact ao agw (ao (bV (Nat.zero_add _)) (aj hl rfl))) λ o _=>?_;have hr:=gR G (CF (n+1)) (.idx (.idx (.var 3) (.var 1)) (Qi 0)) [Dv (iB t),Iv i,none,Dv (bf o),none] σ [.o _] (xP o hi);show(evE G (CF (n+1)) (.idx (.idx (.var 3) (.var 1)) (Qi 0)) [Dv (iB t),Iv i,none,Dv (bf o),none] σ).bind _=_;rw[hr];rfl
 have h2:=pB ((agM i [] t.hs).map λ m=>ay (m.w i).tm) (by simp only[lim,bR];exact ao agw (ao (bV (Nat.zero_add _)) (aj hl rfl)));have hr:=jS (run G (CF (n+1)) b39 [Dv (iB t),Iv i] σ [.r _,.o _,.o _] hc h2 (xP t.c hi));unfold dP nt;rw[List.map_map];exact hr
theorem E7{σ:ae}{c:E}{t:Tg}(enc:β->PyData)(p:β->Bool){items:List β}{d:PyData}(hit:evE G C it fr σ=.ok (.d d) σ)(hd:agt d=some (items.map enc))(hl:items.length<=lim)(h:∀x∈items,∃aR,asg σ t (.d (enc x)) (fr++List.replicate n none)=some aR/\evE G C (.and [c]) aR σ=.ok (.d (.bool (p x))) σ/\evE G C elt aR σ=.ok (.d (enc x)) σ):evE G C (.comp n elt t it [c]) fr σ=.ok (.d (.list ((items.filter p).map enc))) σ:=by
 rw[o7,hit,zG,nd (G:=G) (C:=C) (fr:=fr) (σ:=σ) (n:=n) (elt:=elt) (t:=t) (ifs:=[c]) enc (λ x=>if p x then some (enc x) else none) hd hl ?_]
 .refine congrArg (λ l=>Res.ok (V.d (.list l)) σ) ?_;clear h hd hl;induction items with
  |nil=>rfl
  |cons x xs ih=>rw[List.filterMap_cons,List.filter_cons];cases p x<;>simp[ih]
 .intro x hx;obtain⟨aR,h1,h2,h3⟩:=h x hx;have h2:dg G C [c] aR σ=.ok (.d (.bool (p x))) σ:=h2;rw[h1,Res.bx,Res.ax,h2,Res.ax];cases hp:p x with
  |true=>
   show(evE G C elt aR σ).bind _=_;rw[h3];rfl
  |false=>rfl
noncomputable def ag9:Mf->Option (Mf×Mf)
 |.jV _ _ _=>none
 |.eq l r=>some (l,r)
noncomputable def iN(a b:Ty):Bool:=match a with
 |.fn d _=>d.eq b
 |_=>false
def oI:K2->Tt->Tt->Option Tt
 |.antisym,a,b=>some ⟨agM 0 (a.hs.filter λ m=>!m.w0.nl.eq b.c.w0.nl) (b.hs.filter λ m=>!m.w0.nl.eq a.c.w0.nl),.eq a.c b.c⟩
 |.eqmp,a,b=>(ag9 a.c).bind λ s=>if s.1.w0.nl.eq b.c.w0.nl then some ⟨agM 0 a.hs b.hs,s.2⟩ else none
 |.trans,a,b=>(ag9 a.c).bind λ s=>(ag9 b.c).bind λ t=>if s.2.w0.nl.eq t.1.w0.nl then some ⟨agM 0 a.hs b.hs,.eq s.1 t.2⟩ else none
 |.comb,a,b=>(ag9 a.c).bind λ s=>(ag9 b.c).bind λ t=>if iN s.1.w0.ty t.1.w0.ty then some ⟨agM 0 a.hs b.hs,.eq (oj s.1 t.1) (oj s.2 t.2)⟩ else none
noncomputable def agW(ms:List Tt)(i:Int):Option Tt:=if i<0\/(ms.length:Int)<=i then none else ms[i.toNat]?
def nu(k:K2)(ms:List Tt)(i j:Int):Option Tt:=(agW ms i).bind λ a=>(agW ms j).bind λ b=>oI k a b
def Q2(σ:ae):Option Tt->Res V
 |some t=>.ok (.d (iB t)) σ
 |none=>.ok (.d .none) σ
structure Mn(m:Mf):Prop where
 f0:m.w0.fv.length<=400
 b0:m.w0.bv.length<=400
 f1:m.w1.fv.length<=400
 b1:m.w1.bv.length<=400
 f2:m.w2.fv.length<=400
 b2:m.w2.bv.length<=400
 nl:m.w0.nl.dp<=900
 ty:m.w0.ty.dp<=900
theorem Mn.ml{m:Mf}(h:Mn m):ML m:=⟨⟨by have:=h.f0;exact aj this rfl,by have:=h.b0;exact aj this rfl⟩,⟨by have:=h.f1;exact aj this rfl,by have:=h.b1;exact aj this rfl⟩,⟨by have:=h.f2;exact aj this rfl,by have:=h.b2;exact aj this rfl⟩⟩
def Q3(m:Mf):Prop:=ahd m.w0.ty->ahd m.w1.ty/\ahd m.w2.ty
structure TtN(t:Tt):Prop where
 hs:∀m∈t.hs,MD 0 m
 len:t.hs.length<=400
 c:Mn t.c
 s:∀l r,t.c=.eq l r->Mn l/\Mn r/\Q3 l/\Q3 r/\l.w0.ty=r.w0.ty
theorem Dl{a b:Mf}(ha:Mn a)(hb:Mn b):ML (oj a b):=by
 have h0:=ha.f0;have h1:=ha.b0;have h2:=ha.f1;have h3:=ha.b1;have h4:=ha.f2;have h5:=ha.b2;have k0:=hb.f0;have k1:=hb.b0;have k2:=hb.f1;have k3:=hb.b1;have k4:=hb.f2;have k5:=hb.b2;exact⟨⟨by simp[oj,Dg,cP];exact gI h0 k0 rfl,by simp[oj,Dg,cP];exact gI h1 k1 rfl⟩,⟨by simp[oj,Dh,cP];exact gI h2 k2 rfl,by simp[oj,Dh,cP];exact gI h3 k3 rfl⟩,⟨by simp[oj,Di,cP];exact gI h4 k4 rfl,by simp[oj,Di,cP];exact gI h5 k5 rfl⟩⟩
theorem xQ{ms:List Tt}{i:Int}(h0:¬i<0)(h1:¬(ms.length:Int)<=i):∃t,agW ms i=some t/\ms[i.toNat]?=some t:=by
 have h:i.toNat<ms.length:=by exact Nk h0 h1
 refine⟨ms[i.toNat],?_,gj h⟩;unfold agW;rw[if_neg (by exact TL h0 h1),gj h]
theorem BF{ms:List Tt}{i:Int}{t:Tt}{σ:ae}{k:Nat}(eP:σ[k]?=some (.lst (ms.map iB)))(h0:¬i<0)(hl:ms.length<=900)(h1:¬(ms.length:Int)<=i)(ht:ms[i.toNat]?=some t):oq dD (.loc k) (.d (.int i)) σ=.ok (.d (iB t)) σ:=by
 unfold oq;simp only[aE,eP,Res.bx,Res.ax];have hi:dD (.list (ms.map iB)) (.int i)=some (iB t):=by
  show((O6 i).bind λ n=>(ms.map iB)[n]?)=_;rw[C7 (by exact Nm h0) (by exact Nn h1 hl rfl)];simp[ht]
 rw[hi];rfl
theorem fi{a b:PyData}{p:Prop}[Decidable p](h:d0 op a b=some (.bool (decide p)))(hp:¬p):d0 op a b=some (.bool false):=by rw[h,decide_eq_false hp]
theorem jX{a b:PyData}{p:Prop}[Decidable p](h:d0 op a b=some (.bool (decide p)))(hp:p):d0 op a b=some (.bool true):=by rw[h,decide_eq_true hp]
abbrev yn(k:K2)(m:Nat)(i j:Int)(a b c d e:Option V:=none):agq:=[Dv (.str (st k.i)),some (.loc m),Iv i,Iv j,a,b,c,d,e]
theorem E8(n:Nat)(σ:ae)(k:K2)(m:Nat)(ms:List Tt)(i j:Int)(eP:σ[m]?=some (.lst (ms.map iB)))(hl:ms.length<=900)(uH:i<0\/j<0\/(ms.length:Int)<=i\/(ms.length:Int)<=j):CF (n+1) 40 [.d (.str (st k.i)),.loc m,.d (.int i),.d (.int j)] σ=.ok (.d .none) σ:=by
 have agw:ou gr (.loc m) σ=.ok (.d (.int ms.length)) σ:=by
  rw[Br _ eP,agH _ (by simp[lim];exact aj hl rfl)];simp[uk]
 by_cases h0:i<0
 .exact jS (run G (CF n) zF (yn k m i j) σ [.o _] (jX (fT i 0) h0))
 by_cases h1:j<0
 .exact jS (run G (CF n) zF (yn k m i j) σ [.o _,.o _] (fi (fT i 0) h0) (jX (fT j 0) h1))
 by_cases h2:(ms.length:Int)<=i
 .exact jS (run G (CF n) zF (yn k m i j) σ [.o _,.o _,.r _,.o _] (fi (fT i 0) h0) (fi (fT j 0) h1) agw (jX (uA i _) h2))
 have h3:(ms.length:Int)<=j:=by exact((uH.resolve_left h0).resolve_left h1).resolve_left h2
 exact jS (run G (CF n) zF (yn k m i j) σ [.o _,.o _,.r _,.o _,.r _,.o _] (fi (fT i 0) h0) (fi (fT j 0) h1) agw (fi (uA i _) h2) agw (jX (uA j _) h3))
theorem Dm(n:Nat)(σ:ae)(fr:agq)(q:Nat)(hs:List Mf)(m:Mf)(hh:∀o∈hs,MD 0 o)(hl:hs.length<=400)(it c:E)(hit:evE G (CF n) it fr σ=.ok (.d (.list (hs.map bf))) σ)(hc:∀o∈hs,∃aR,asg σ (.var 10) (.d (bf o)) (fr++List.replicate 3 none)=some aR/\evE G (CF n) (.and [c]) aR σ=.ok (.d (.bool (!o.w0.nl.eq m.w0.nl))) σ/\evE G (CF n) (.var 10) aR σ=.ok (.d (bf o)) σ):evE G (CF n) (.comp 3 (.var 10) (.var 10) it [c]) fr σ=.ok (.d (.list ((hs.filter λ o=>!o.w0.nl.eq m.w0.nl).map bf))) σ:=
 E7 bf _ hit rfl (by simp only[lim];exact aj hl rfl) hc
def cL:E:=.cmp .ne (.idx (Qx 10 0) (Qi 1)) (.idx (Qx 7 0) (Qi 1))
def cR:E:=.cmp .ne (.idx (Qx 10 0) (Qi 1)) (.idx (Qx 5 0) (Qi 1))
theorem WO(n:Nat)(σ:ae)(a0 a1 a2 a3 a4 a5 a6 a8:Option V)(o m:Mf)(ho:MD 0 o):evE G (CF n) (.and [cL]) [a0,a1,a2,a3,a4,a5,a6,Dv (bf m),a8,none,Dv (bf o),none] σ=.ok (.d (.bool (!o.w0.nl.eq m.w0.nl))) σ:=by
 obtain⟨o1,o2,eo⟩:=eA o;obtain⟨m1,m2,em⟩:=eA m;rw[eo,em];have h:=Dj o.w0.nl m.w0.nl ho;cases hq:o.w0.nl.eq m.w0.nl<;>rw[hq] at h <;>
 exact gR G (CF n) (.and [cL]) [a0,a1,a2,a3,a4,a5,a6,Dv (.tuple [eW m.w0,eW m.w1,eW m.w2,m1,m2]),a8,none,Dv (.tuple [eW o.w0,eW o.w1,eW o.w2,o1,o2]),none] σ [.o _] h
theorem WQ(n:Nat)(σ:ae)(a0 a1 a2 a3 a4 a6 a7 a8:Option V)(o m:Mf)(ho:MD 0 o):evE G (CF n) (.and [cR]) [a0,a1,a2,a3,a4,Dv (bf m),a6,a7,a8,none,Dv (bf o),none] σ=.ok (.d (.bool (!o.w0.nl.eq m.w0.nl))) σ:=by
 obtain⟨o1,o2,eo⟩:=eA o;obtain⟨m1,m2,em⟩:=eA m;rw[eo,em];have h:=Dj o.w0.nl m.w0.nl ho;cases hq:o.w0.nl.eq m.w0.nl<;>rw[hq] at h <;>
 exact gR G (CF n) (.and [cR]) [a0,a1,a2,a3,a4,Dv (.tuple [eW m.w0,eW m.w1,eW m.w2,m1,m2]),a6,a7,a8,none,Dv (.tuple [eW o.w0,eW o.w1,eW o.w2,o1,o2]),none] σ [.o _] h
abbrev tM(m:Mf)(l r:PyData):PyData:=.tuple [eW m.w0,eW m.w1,eW m.w2,l,r]
theorem Q4(t u:Ty)(h:u.dp<=900):∃d,pR 0 2 (cI t)=some d/\d0 .eq d (.tuple [.str (st 2),cI u])=some (.bool (iN t u)):=by
 have hd:=dm u;have GR:(PyData.tuple [.str (st 2),cI u]).depth<=fj:=by simp only[u5,wQ,vA,uW,fj];(apply kD;(apply cV<;>(first|exact dk|(with_reducible apply cV<;>(first|exact dk|exact fK hd h rfl)))))
 cases t with
 |bool=>exact⟨_,rfl,by refine cN _ _ _ ?_;rw[oB,if_pos (.inl GR)];simp[eK,dZ,di,oE,iN,ig]⟩
 |ind=>exact⟨_,rfl,by refine cN _ _ _ ?_;rw[oB,if_pos (.inl GR)];simp[eK,dZ,di,oE,iN,ig]⟩
 |any x=>exact⟨_,rfl,by refine cN _ _ _ ?_;rw[oB,if_pos (.inl GR)];simp[eK,dZ,fw,di,iN,ig]⟩
 |fn a b=>exact⟨.tuple [.str (st 2),cI a],rfl,by refine cN _ _ _ ?_;rw[oB,if_pos (.inl GR)];simp[eK,dZ,fw,di,iN,iE]⟩
theorem WR(ha:bf a=da)(hb:bf b=db)(la:ML a)(lb:ML b):CF (n+2) 32 [.d da,.d db] σ=.ok (.d (bf (.eq a b))) σ:=by rw[←ha,←hb];exact fD n σ a b la lb
theorem OP(ha:bf a=da)(hb:bf b=db)(la:ML a)(lb:ML b)(h0:ahd a.w0.ty)(h1:ahd a.w1.ty)(h2:ahd a.w2.ty):CF (n+2) 33 [.d da,.d db] σ=.ok (.d (bf (oj a b))) σ:=by rw[←ha,←hb];exact E5 n σ a b la lb h0 h1 h2
theorem I9(h:iN a b=true):ahd a:=by cases a<;>simp[iN] at h;exact⟨_,_,rfl⟩
theorem xR(n:Nat)(σ:ae)(k:K2)(m:Nat)(ms:List Tt)(i j:Int)(eP:σ[m]?=some (.lst (ms.map iB)))(hl:ms.length<=900)(hN:∀t∈ms,TtN t):CF (n+3) 40 [.d (.str (st k.i)),.loc m,.d (.int i),.d (.int j)] σ=Q2 σ (nu k ms i j):=by
 by_cases uH:i<0\/j<0\/(ms.length:Int)<=i\/(ms.length:Int)<=j
 .rw[E8 (n+2) σ k m ms i j eP hl uH];haveI:nu k ms i j=none:=by
   unfold nu agW;by_cases hi:i<0\/(ms.length:Int)<=i
   .rw[if_pos hi];rfl
   .rw[if_neg hi,if_pos (by exact TK uH hi:j<0\/(ms.length:Int)<=j)];cases ms[i.toNat]?<;>rfl
  rw[this];rfl
 have h0:¬i<0:=by exact TC uH
 have h1:¬j<0:=by exact TF uH
 have h2:¬(ms.length:Int)<=i:=by exact TH uH
 have h3:¬(ms.length:Int)<=j:=by exact TJ uH
 obtain⟨a,ga,ia⟩:=xQ h0 h2;obtain⟨b,gb,ib⟩:=xQ h1 h3;haveI hc:nu k ms i j=oI k a b:=by unfold nu;rw[ga,gb];rfl
 rw[hc];haveI na:=hN a (dH ia);haveI nb:=hN b (dH ib);have agw:ou gr (.loc m) σ=.ok (.d (.int ms.length)) σ:=by
  rw[Br _ eP,agH _ (by simp[lim];exact aj hl rfl)];simp[uk]
 haveI xa:=BF eP h0 hl h2 ia;haveI xb:=BF eP h1 hl h3 ib;have c0:=fi (fT i 0) h0;have c1:=fi (fT j 0) h1;have c2:=fi (uA i _) h2;have c3:=fi (uA j _) h3;clear hc ga gb ia ib uH h0 h1 h2 h3 hN;obtain⟨ha,ac⟩:=a;obtain⟨hb,bc⟩:=b;have la:=na.len;have lb:=nb.len;dsimp only at la lb;have hj:=pA (n+1) σ ha hb 0 (by exact dk) nb.hs (by exact gI la lb rfl);haveI na1:=na.hs;have XM:=nb.hs;dsimp only at na1 XM;cases k with
 |antisym=>
  haveI k1:evE G (CF (n+2)) (.comp 3 (.var 10) (.var 10) (.var 4) [cL]) (yn .antisym m i j (Dv (.list (ha.map bf))) (Dv (bf ac)) (Dv (.list (hb.map bf))) (Dv (bf bc)) (Dv (.list ((agM 0 ha hb).map bf)))) σ=.ok (.d (.list ((ha.filter λ o=>!o.w0.nl.eq bc.w0.nl).map bf))) σ:=
   Dm (n+2) σ _ 0 ha bc na1 la (.var 4) cL rfl λ o ho=>⟨_,rfl,WO (n+2) σ _ _ _ _ _ _ _ _ o bc (na1 o ho),rfl⟩
  haveI k2:evE G (CF (n+2)) (.comp 3 (.var 10) (.var 10) (.var 6) [cR]) (yn .antisym m i j (Dv (.list (ha.map bf))) (Dv (bf ac)) (Dv (.list (hb.map bf))) (Dv (bf bc)) (Dv (.list ((agM 0 ha hb).map bf)))) σ=.ok (.d (.list ((hb.filter λ o=>!o.w0.nl.eq ac.w0.nl).map bf))) σ:=
   Dm (n+2) σ _ 0 hb ac XM lb (.var 6) cR rfl λ o ho=>⟨_,rfl,WQ (n+2) σ _ _ _ _ _ _ _ _ o ac (XM o ho),rfl⟩
  haveI k3:=pA (n+1) σ (ha.filter λ o=>!o.w0.nl.eq bc.w0.nl) (hb.filter λ o=>!o.w0.nl.eq ac.w0.nl) 0 (by exact dk) (λ o ho=>XM o (List.mem_filter.mp ho).1) (by
   haveI:=lY (λ o:Mf=>!o.w0.nl.eq bc.w0.nl) ha;haveI:=lY (λ o:Mf=>!o.w0.nl.eq ac.w0.nl) hb;exact Te la lb rfl)
  haveI k4:=fD n σ ac bc na.c.ml nb.c.ml;exact jS (run G (CF (n+2)) zF (yn .antisym m i j) σ [.o _,.o _,.r _,.o _,.r _,.o _,.r _,.r _,.r _,.r _,.r _,.r _,.r _,.r _,.r _] c0 c1 agw c2 agw c3 xa xa xb xb hj k1 k2 k3 k4)
 |eqmp=>
  cases ac with
  |jV p q r=>exact jS (run G (CF (n+2)) zF (yn .eqmp m i j) σ [.o _,.o _,.r _,.o _,.r _,.o _,.r _,.r _,.r _,.r _,.r _] c0 c1 agw c2 agw c3 xa xa xb xb hj)
  |eq l r=>
   obtain⟨l1,l2,el⟩:=eA l;obtain⟨b1,b2,eb⟩:=eA bc;obtain⟨ml,mr,fl,fr,et⟩:=na.s l r rfl;have q:=I6 l.w0.nl bc.w0.nl ml.nl;haveI yo:oq dD (.loc m) (.d (.int i)) σ=.ok (.d (.tuple [.list (ha.map bf),.tuple [eW (bG l.w0 r.w0),eW (bG l.w1 r.w1),eW (bG l.w2 r.w2),tM l l1 l2,bf r]])) σ:=by rw[xa];unfold iB;simp only[wC];rw[el]
   haveI Dn:oq dD (.loc m) (.d (.int j)) σ=.ok (.d (.tuple [.list (hb.map bf),tM bc b1 b2])) σ:=by rw[xb];unfold iB;rw[eb]
   unfold oI;dsimp only[ag9,Option.bind];cases hq:l.w0.nl.eq bc.w0.nl with
   |true=>
    rw[hq] at q;exact jS (run G (CF (n+2)) zF (yn .eqmp m i j) σ [.o _,.o _,.r _,.o _,.r _,.o _,.r _,.r _,.r _,.r _,.r _,.o _] c0 c1 agw c2 agw c3 yo yo Dn Dn hj q)
   |false=>
    rw[hq] at q;exact jS (run G (CF (n+2)) zF (yn .eqmp m i j) σ [.o _,.o _,.r _,.o _,.r _,.o _,.r _,.r _,.r _,.r _,.r _,.o _] c0 c1 agw c2 agw c3 yo yo Dn Dn hj q)
 |trans=>
  cases ac with
  |jV p q r=>exact jS (run G (CF (n+2)) zF (yn .trans m i j) σ [.o _,.o _,.r _,.o _,.r _,.o _,.r _,.r _,.r _,.r _,.r _] c0 c1 agw c2 agw c3 xa xa xb xb hj)
  |eq l r=>
   obtain⟨l1,l2,el⟩:=eA l;obtain⟨r1,r2,er⟩:=eA r;obtain⟨ml,mr,fl,fr,et⟩:=na.s l r rfl;have yo:oq dD (.loc m) (.d (.int i)) σ=.ok (.d (.tuple [.list (ha.map bf),.tuple [eW (bG l.w0 r.w0),eW (bG l.w1 r.w1),eW (bG l.w2 r.w2),tM l l1 l2,tM r r1 r2]])) σ:=by rw[xa];unfold iB;simp only[wC];rw[el,er]
   cases bc with
   |jV x y z=>exact jS (run G (CF (n+2)) zF (yn .trans m i j) σ [.o _,.o _,.r _,.o _,.r _,.o _,.r _,.r _,.r _,.r _,.r _] c0 c1 agw c2 agw c3 yo yo xb xb hj)
   |eq u v=>
    obtain⟨u1,u2,eu⟩:=eA u;obtain⟨v1,v2,ev⟩:=eA v;obtain⟨mu,mv,fu,fv,eut⟩:=nb.s u v rfl;have Dn:oq dD (.loc m) (.d (.int j)) σ=.ok (.d (.tuple [.list (hb.map bf),.tuple [eW (bG u.w0 v.w0),eW (bG u.w1 v.w1),eW (bG u.w2 v.w2),tM u u1 u2,tM v v1 v2]])) σ:=by rw[xb];unfold iB;simp only[wC];rw[eu,ev]
    have q:=I6 r.w0.nl u.w0.nl mr.nl;unfold oI;dsimp only[ag9,Option.bind];cases hq:r.w0.nl.eq u.w0.nl with
    |true=>
     rw[hq] at q;exact jS (run G (CF (n+2)) zF (yn .trans m i j) σ [.o _,.o _,.r _,.o _,.r _,.o _,.r _,.r _,.r _,.r _,.r _,.o _,.r _] c0 c1 agw c2 agw c3 yo yo Dn Dn hj q (WR el ev ml.ml mv.ml))
    |false=>
     rw[hq] at q;exact jS (run G (CF (n+2)) zF (yn .trans m i j) σ [.o _,.o _,.r _,.o _,.r _,.o _,.r _,.r _,.r _,.r _,.r _,.o _] c0 c1 agw c2 agw c3 yo yo Dn Dn hj q)
 |comb=>
  cases ac with
  |jV p q r=>exact jS (run G (CF (n+2)) zF (yn .comb m i j) σ [.o _,.o _,.r _,.o _,.r _,.o _,.r _,.r _,.r _,.r _,.r _] c0 c1 agw c2 agw c3 xa xa xb xb hj)
  |eq l r=>
   obtain⟨l1,l2,el⟩:=eA l;obtain⟨r1,r2,er⟩:=eA r;obtain⟨ml,mr,fl,fr,et⟩:=na.s l r rfl;have yo:oq dD (.loc m) (.d (.int i)) σ=.ok (.d (.tuple [.list (ha.map bf),.tuple [eW (bG l.w0 r.w0),eW (bG l.w1 r.w1),eW (bG l.w2 r.w2),tM l l1 l2,tM r r1 r2]])) σ:=by rw[xa];unfold iB;simp only[wC];rw[el,er]
   cases bc with
   |jV x y z=>exact jS (run G (CF (n+2)) zF (yn .comb m i j) σ [.o _,.o _,.r _,.o _,.r _,.o _,.r _,.r _,.r _,.r _,.r _] c0 c1 agw c2 agw c3 yo yo xb xb hj)
   |eq u v=>
    obtain⟨u1,u2,eu⟩:=eA u;obtain⟨v1,v2,ev⟩:=eA v;obtain⟨mu,mv,fu,fv,eut⟩:=nb.s u v rfl;have Dn:oq dD (.loc m) (.d (.int j)) σ=.ok (.d (.tuple [.list (hb.map bf),.tuple [eW (bG u.w0 v.w0),eW (bG u.w1 v.w1),eW (bG u.w2 v.w2),tM u u1 u2,tM v v1 v2]])) σ:=by rw[xb];unfold iB;simp only[wC];rw[eu,ev]
    obtain⟨sd,hs,hq⟩:=Q4 l.w0.ty u.w0.ty mu.ty;unfold oI;dsimp only[ag9,Option.bind];cases hf:iN l.w0.ty u.w0.ty with
    |true=>
     rw[hf] at hq;haveI il:=I9 hf;haveI ir:ahd r.w0.ty:=et▸il;haveI il1:=(fl il).1;haveI il2:=(fl il).2;haveI ir1:=(fr ir).1;haveI ir2:=(fr ir).2;exact jS (run G (CF (n+2)) zF (yn .comb m i j) σ [.o _,.o _,.r _,.o _,.r _,.o _,.r _,.r _,.r _,.r _,.r _,.o _,.o _,.r _,.r _,.r _] c0 c1 agw c2 agw c3 yo yo Dn Dn hj hs hq (OP el eu ml.ml mu.ml il il1 il2) (OP er ev mr.ml mv.ml ir ir1 ir2) (fD n σ (oj l u) (oj r v) (Dl ml mu) (Dl mr mv)))
    |false=>
     rw[hf] at hq;exact jS (run G (CF (n+2)) zF (yn .comb m i j) σ [.o _,.o _,.r _,.o _,.r _,.o _,.r _,.r _,.r _,.r _,.r _,.o _,.o _] c0 c1 agw c2 agw c3 yo yo Dn Dn hj hs hq)
inductive Sk(u:Unit:=()) where|refl|assume|beta
noncomputable def Sk.ctorIdx{u}(t:Sk u):Nat:=t.casesOn 0 1 2
noncomputable def Sk.i:Sk->Nat | .refl=>11 | .assume=>12 | .beta=>16
def rq(m:Mf):Mf:=.jV (ph m.w0) (ph m.w1) (ph m.w2)
def si:Sk->Mf->Option Tt
 |.refl,m=>some ⟨[],.eq m m⟩
 |.beta,m=>some ⟨[],.eq (rq m) m⟩
 |.assume,m=>if m.w0.ty.eq .bool then some ⟨[m],m⟩ else none
theorem L9(a b:Ty)(h:a.dp<=900):d0 .eq (cI a) (cI b)=some (.bool (a.eq b)):=cN _ _ _ (Ik h)
theorem Q5(h:Mn m):ML (rq m):=by
 haveI h0:=h.f0;have h1:=h.b0;have h2:=h.f1;have h3:=h.b1;have h4:=h.f2;have h5:=h.b2;exact⟨⟨by simp[rq,Dg,ph,cP,gg,eL];exact aj h0 rfl,by simp[rq,Dg,ph,cP,gg,eL];exact aj h1 rfl⟩,⟨by simp[rq,Dh,ph,cP,gg,eL];exact aj h2 rfl,by simp[rq,Dh,ph,cP,gg,eL];exact aj h3 rfl⟩,⟨by simp[rq,Di,ph,cP,gg,eL];exact aj h4 rfl,by simp[rq,Di,ph,cP,gg,eL];exact aj h5 rfl⟩⟩
theorem E9(n:Nat)(σ:ae)(k:Sk)(m:Mf)(h:Mn m):CF (n+3) 41 [.d (.str (st k.i)),.d (bf m)] σ=Q2 σ (si k m):=by
 induction k with
 |refl=>exact jS (run G (CF (n+2)) V4 [Dv (.str (st 11)),Dv (bf m)] σ [.r _] (fD n σ m m h.ml h.ml))
 |beta=>
  obtain⟨l,r,e⟩:=eA m;have h1:=pq n σ m.w0 h.ml.w0 (by have:=h.b0;exact aj this rfl);have h2:=pq n σ m.w1 h.ml.w1 (by have:=h.b1;exact aj this rfl);have h3:=pq n σ m.w2 h.ml.w2 (by have:=h.b2;exact aj this rfl);haveI h4:=WR (n:=n) (σ:=σ) (a:=rq m) (b:=m) rfl e (Q5 h) h.ml;rw[e];exact jS (run G (CF (n+2)) V4 [Dv (.str (st 16)),Dv (tM m l r)] σ [.r _,.r _,.r _,.r _] h1 h2 h3 h4)
 |assume=>
  obtain⟨l,r,e⟩:=eA m;have q:=L9 m.w0.ty .bool h.ty;unfold si;dsimp only;cases hq:m.w0.ty.eq .bool with
  |true=>
   rw[hq] at q;show _=Res.ok (V.d (.tuple [.list [bf m],bf m])) σ;rw[e];exact jS (run G (CF (n+2)) V4 [Dv (.str (st 12)),Dv (tM m l r)] σ [.o _] q)
  |false=>
   rw[hq] at q;rw[e];exact jS (run G (CF (n+2)) V4 [Dv (.str (st 12)),Dv (tM m l r)] σ [.o _] q)
theorem uI{t1 t2:Tg}(enc:β->PyData)(ru:γ->PyData)(g:β->List γ){items:List β}(hit:evE G C qQ fr σ=.ok (.d (.list (items.map enc))) σ)(hl:items.length<=1000)(hp:(agF it2&&agF elt)=true)(h:∀x∈items,∃cQ,asg σ t1 (.d (enc x)) (fr++List.replicate n none)=some cQ/\evE G C it2 cQ σ=.ok (.d (.tuple ((g x).map ru))) σ/\(g x).length<=1000/\∀z∈g x,∃hG,asg σ t2 (.d (ru z)) cQ=some hG/\evE G C elt hG σ=.ok (.d (ru z)) σ):evE G C (.fY n elt t1 qQ t2 it2) fr σ=.ok (.d (.list ((items.flatMap g).map ru))) σ:=by
 rw[nF,hit,Res.ax];dsimp only;rw[show agt (.list (items.map enc))=some (items.map enc) from rfl,Res.bx,Res.ax,if_pos ⟨hp,by rw[bR];exact hl⟩];have key:∀items:List β,(∀x∈items,∃cQ,asg σ t1 (.d (enc x)) (fr++List.replicate n none)=some cQ/\evE G C it2 cQ σ=.ok (.d (.tuple ((g x).map ru))) σ/\(g x).length<=1000/\∀z∈g x,∃hG,asg σ t2 (.d (ru z)) cQ=some hG/\evE G C elt hG σ=.ok (.d (ru z)) σ) ->
   agz (λ y σ=>(Res.of σ (asg σ t1 (.d y) (fr++List.replicate n none))).bind λ cQ σ=>(evE G C it2 cQ σ).bind λ v2 σ=>match v2 with
      |.d x2=>(Res.of σ (agt x2)).bind λ gv σ=>
       if gv.length<=1000 then
       aA (λ z σ=>(Res.of σ (asg σ t2 (.d z) cQ)).bind λ hG σ=>(evE G C elt hG σ).bind λ r σ=>match r with
        |.d q=>.ok (some q) σ
        |.loc _=>.stuck) gv σ
       else .stuck
      |.loc _=>.stuck) (items.map enc) σ=.ok ((items.flatMap g).map ru) σ:=by
  intro items;induction items with
  |nil=>intro _;rfl
  |cons x xs ih=>
   intro h;obtain⟨cQ,h1,h2,h3,h4⟩:=h x dC
   (rewrite[List.map_cons];(first|rewrite[Ny]|rewrite[Nz]);rw[h1,Res.bx,Res.ax,h2,Res.ax])
   dsimp only;rw[show agt (.tuple ((g x).map ru))=some ((g x).map ru) from rfl,Res.bx,Res.ax,if_pos (by rw[bR];exact h3),agZ ru (λ z=>some (ru z)) (g x) λ z hz=>?_]
   .rw[Res.ax,ih λ y hy=>h y (d8 _ hy),Res.ax,List.flatMap_cons,List.map_append];exact congrArg (λ l=>Res.ok (l++_) σ) (congrFun (List.filterMap_eq_map (f:=ru)) (g x))
   .obtain⟨hG,h5,h6⟩:=h4 z hz;rw[h5,Res.bx,Res.ax,h6,Res.ax]
 exact congrArg (λ r:Res (List PyData)=>r.bind λ ys σ=>Res.ok (V.d (.list ys)) σ) (key items h)
def eV(l:List Vr):List Vr:=l.foldl (λ o v=>if bt v o then o else o++[v]) []
theorem Ma(l o:List Vr):(l.map aV).foldl wU (o.map aV)=(l.foldl (λ o v=>if bt v o then o else o++[v]) o).map aV:=by
 induction l generalizing o with
 |nil=>rfl
 |cons v l ih=>
  simp only[List.map_cons,List.foldl_cons,List.foldl_cons,←ih];haveI:wU (o.map aV) (aV v)=(if bt v o then o else o++[v]).map aV:=by
   unfold wU;rw[xA];cases bt v o<;>simp
  rw[this]
theorem Ja:∀t:Ty,hk (cI t)=true
 |.bool=>rfl
 |.ind=>rfl
 |.any _=>rfl
 |.fn a b=>by show(true&&(hk (cI a)&&(hk (cI b)&&true)))=true;rw[Ja a,Ja b];rfl
theorem Dp(l:List Vr)(h1:∀v∈l,v.t.dp<=6)(h2:l.length<=4000)(h3:(eV l).length<18):ahb (.list (l.map aV))=some (.int (eV l).length):=by
 haveI e:Ca (l.map aV)=(eV l).map aV:=Ma l [];unfold ahb;simp only[e,bR,bR];haveI ha:((l.map aV).all λ x=>ahg x&&hk x&&decide (x.depth<=8))=true:=by
  rw[List.all_map,fX];intro v hv;haveI:=h1 v hv;haveI hd:=iY v;haveI hh:hk (aV v)=true:=by show(true&&(true&&(hk (cI v.t)&&true)))=true;rw[Ja];rfl
  haveI ht:ahg (aV v)=true:=rfl;show(ahg (aV v)&&hk (aV v)&&decide ((aV v).depth<=8))=true;rw[hh,ht,decide_eq_true (by exact fK hd this rfl)];rfl
 simp only[ha,decide_eq_true h2,decide_eq_true h3];rfl
inductive Fk(u:Unit:=()) where|inst|insttype|abs|sym
noncomputable def Fk.ctorIdx{u}(t:Fk u):Nat:=t.casesOn 0 1 2 3
noncomputable def Fk.i:Fk->Nat | .inst=>17 | .insttype=>18 | .abs=>6 | .sym=>32
noncomputable def Dq(i:Nat)(m:Mf):List Vr:=(m.w i).fv++(m.w i).bv
def jB(t:Tt):List Vr:=(t.hs++[t.c]).flatMap (Dq 0)
def pC(t:Tt):List Vr:=(t.hs++[t.c]).flatMap (Dq 2)
noncomputable def BG(t:Tt):List Vr:=t.hs.flatMap λ m=>m.w0.fv
def rx(i:Nat)(t:Tt):Th:=⟨nt i t,(t.c.w i).tm⟩
def jC:Fk->Vr->Tt->Option Th
 |.inst,_,t=>some (rx 1 t)
 |.insttype,_,t=>if(eV (jB t)).length=(eV (pC t)).length then some (rx 2 t) else none
 |.abs,v,t=>(ag9 t.c).bind λ s=>if bt v (BG t) then none else some ⟨nt 0 t,(bG (gg v.x v.k v.t s.1.w0) (gg v.x v.k v.t s.2.w0)).tm⟩
 |.sym,_,_=>none
def OQ(σ:ae):Option Th->Res V
 |some t=>.ok (.d (dP t)) σ
 |none=>.ok (.d .none) σ
end
structure WT(t:Tt):Prop where
 n:TtN t
 m:∀m∈t.hs++[t.c],Mn m
 d1:∀m∈t.hs,MD 1 m
 d2:∀m∈t.hs,MD 2 m
 t0:∀v∈jB t,v.t.dp<=6
 t2:∀v∈pC t,v.t.dp<=6
 l0:(jB t).length<=4000
 l2:(pC t).length<=4000
 c0:(eV (jB t)).length<18
 c2:(eV (pC t)).length<18
theorem Jb(v:Vr)(l:List Vr)(h:v.t.dp<=900):d0 .nZ (aV v) (.list (l.map aV))=some (.bool (!bt v l)):=qq l h
theorem Q6(n:Nat)(σ:ae)(kd:Fk)(v:Wt)(t:Tt)(h:WT t):evE G (CF n) (.fY 3 (.var 7) (.var 6) (.bin .add (Qx 2 0) (.lst [(Qx 2 1)])) (.var 7) (.bin .add (.idx (Qx 6 0) (Qi 3)) (.idx (Qx 6 0) (Qi 4))))
   [Dv (.str (st kd.i)),Dv (eW v),Dv (iB t),none,none] σ=.ok (.d (.list ((jB t).map aV))) σ:=by
 have hl:=h.n.len;have ha:agK .add (.list (t.hs.map bf)) (.list [bf t.c])=some (.list ((t.hs++[t.c]).map bf)):=by
  rw[ij (by simp only[lim,bR,List.length_cons,List.length_nil];exact d9 hl rfl),List.map_append];rfl
 refine uI bf aV (Dq 0) (gR G (CF n) (.bin .add (Qx 2 0) (.lst [(Qx 2 1)])) [Dv (.str (st kd.i)),Dv (eW v),Dv (iB t),none,none] σ [.o _] ha) (by simp only[cO,List.length_singleton];exact d9 hl rfl) rfl λ m hm=>?_;have hn:=h.m m hm;obtain⟨l,r,e⟩:=eA m;rw[e];exact⟨_,rfl,gR G (CF n) (.bin .add (.idx (Qx 6 0) (Qi 3)) (.idx (Qx 6 0) (Qi 4))) [Dv (.str (st kd.i)),Dv (eW v),Dv (iB t),none,none,none,Dv (tM m l r),none] σ [.o _] (pg hn.ml.w0.fv hn.ml.w0.bv),by have:=hn.f0;have:=hn.b0;show(m.w0.fv++m.w0.bv).length<=_;rw[cO];with_reducible exact gI ‹_› this rfl,λ z _=>⟨_,rfl,rfl⟩⟩
theorem Q7(n:Nat)(σ:ae)(kd:Fk)(v:Wt)(t:Tt)(h:WT t)(d3:PyData):evE G (CF n) (.fY 3 (.var 7) (.var 6) (.bin .add (Qx 2 0) (.lst [(Qx 2 1)])) (.var 7) (.bin .add (.idx (Qx 6 2) (Qi 3)) (.idx (Qx 6 2) (Qi 4))))
   [Dv (.str (st kd.i)),Dv (eW v),Dv (iB t),Dv d3,none] σ=.ok (.d (.list ((pC t).map aV))) σ:=by
 have hl:=h.n.len;haveI ha:agK .add (.list (t.hs.map bf)) (.list [bf t.c])=some (.list ((t.hs++[t.c]).map bf)):=by
  rw[ij (by simp only[lim,bR,List.length_cons,List.length_nil];exact d9 hl rfl),List.map_append];rfl
 refine uI bf aV (Dq 2) (gR G (CF n) (.bin .add (Qx 2 0) (.lst [(Qx 2 1)])) [Dv (.str (st kd.i)),Dv (eW v),Dv (iB t),Dv d3,none] σ [.o _] ha) (by simp only[cO,List.length_singleton];exact d9 hl rfl) rfl λ m hm=>?_;have hn:=h.m m hm;obtain⟨l,r,e⟩:=eA m;rw[e];exact⟨_,rfl,gR G (CF n) (.bin .add (.idx (Qx 6 2) (Qi 3)) (.idx (Qx 6 2) (Qi 4))) [Dv (.str (st kd.i)),Dv (eW v),Dv (iB t),Dv d3,none,none,Dv (tM m l r),none] σ [.o _] (pg hn.ml.w2.fv hn.ml.w2.bv),by have:=hn.f2;have:=hn.b2;show(m.w2.fv++m.w2.bv).length<=_;rw[cO];with_reducible exact gI ‹_› this rfl,λ z _=>⟨_,rfl,rfl⟩⟩
theorem Q8(n:Nat)(σ:ae)(kd:Fk)(v:Wt)(t:Tt)(h:WT t)(d3 d4:PyData)(dt:PyData)(et:iB t=dt):evE G (CF n) (.fY 3 (.var 7) (.var 6) (Qx 2 0) (.var 7) (.idx (Qx 6 0) (Qi 3)))
   [Dv (.str (st kd.i)),Dv (eW v),Dv dt,Dv d3,Dv d4] σ=.ok (.d (.list ((BG t).map aV))) σ:=by
 haveI hl:=h.n.len;rw[←et];refine uI bf aV (λ m=>m.w0.fv) rfl (by exact aj hl rfl) rfl λ m hm=>?_;have hn:=h.m m (List.mem_append_left _ hm);obtain⟨l,r,e⟩:=eA m;rw[e];exact⟨_,rfl,rfl,by have:=hn.f0;exact aj this rfl,λ z _=>⟨_,rfl,rfl⟩⟩
theorem BH(n:Nat)(σ:ae)(kd:Fk)(v:Vr)(t:Tt)(h:WT t)(hv:v.t.dp<=900):CF (n+4) 42 [.d (.str (st kd.i)),.d (eW (eL v.x v.k v.t)),.d (iB t)] σ=OQ σ (jC kd v t):=by
 haveI ho:=Q6 (n+3) σ kd (eL v.x v.k v.t) t h;haveI hw:=Q7 (n+3) σ kd (eL v.x v.k v.t) t h (.list ((jB t).map aV));have hl:=h.n.len;induction kd with
 |inst=>
  haveI h1:=lT (n+1) σ t 1 (by exact lZ rfl) h.d1 (by exact aj hl rfl);exact jS (run G (CF (n+3)) Om [Dv (.str (st 17)),Dv (eW (eL v.x v.k v.t)),Dv (iB t),none,none] σ [.r _,.r _,.r _] ho hw h1)
 |insttype=>
  haveI h1:=lT (n+1) σ t 2 (by exact lZ rfl) h.d2 (by exact aj hl rfl);haveI s0:=Dp (jB t) h.t0 h.l0 h.c0;haveI s2:=Dp (pC t) h.t2 h.l2 h.c2;haveI q:=C5 (eV (jB t)).length (eV (pC t)).length;unfold jC;dsimp only;by_cases e:(eV (jB t)).length=(eV (pC t)).length
  .rw[show(((eV (jB t)).length:Int)==((eV (pC t)).length:Int))=true by rw[e];exact beq_self_eq_true _] at q;rw[if_pos e];exact jS (run G (CF (n+3)) Om [Dv (.str (st 18)),Dv (eW (eL v.x v.k v.t)),Dv (iB t),none,none] σ [.r _,.r _,.o _,.o _,.o _,.r _] ho hw s0 s2 q h1)
  .rw[show(((eV (jB t)).length:Int)==((eV (pC t)).length:Int))=false from beq_eq_false_iff_ne.mpr (by exact λ q=>e (Int.ofNat.inj q))] at q;rw[if_neg e];exact jS (run G (CF (n+3)) Om [Dv (.str (st 18)),Dv (eW (eL v.x v.k v.t)),Dv (iB t),none,none] σ [.r _,.r _,.o _,.o _,.o _] ho hw s0 s2 q)
 |sym=>exact jS (run G (CF (n+3)) Om [Dv (.str (st 32)),Dv (eW (eL v.x v.k v.t)),Dv (iB t),none,none] σ [.r _,.r _] ho hw)
 |abs=>
  obtain⟨hs,c⟩:=t;cases c with
  |jV x y z=>exact jS (run G (CF (n+3)) Om [Dv (.str (st 6)),Dv (eW (eL v.x v.k v.t)),Dv (iB ⟨hs,.jV x y z⟩),none,none] σ [.r _,.r _] ho hw)
  |eq l r=>
   obtain⟨l1,l2,el⟩:=eA l;obtain⟨r1,r2,er⟩:=eA r;obtain⟨ml,mr,fl,fr,et⟩:=h.n.s l r rfl;have e:iB ⟨hs,.eq l r⟩=.tuple [.list (hs.map bf),.tuple [eW (bG l.w0 r.w0),eW (bG l.w1 r.w1),eW (bG l.w2 r.w2),tM l l1 l2,tM r r1 r2]]:=by unfold iB;simp only[wC];simp only[el,er]
   haveI hh:=Q8 (n+3) σ .abs (eL v.x v.k v.t) ⟨hs,.eq l r⟩ h (.list ((jB ⟨hs,.eq l r⟩).map aV)) (.list ((pC ⟨hs,.eq l r⟩).map aV)) _ e;haveI q:=Jb v (BG ⟨hs,.eq l r⟩) hv;haveI h1:=lT (n+1) σ ⟨hs,.eq l r⟩ 0 (by exact dk) h.n.hs (by exact aj hl rfl);haveI h2:=gD (n+2) σ v.x v.k v.t l.w0 ml.ml.w0;haveI h3:=gD (n+2) σ v.x v.k v.t r.w0 mr.ml.w0;haveI f0:=ml.f0;have f1:=ml.b0;have g0:=mr.f0;have g1:=mr.b0;haveI h4:=kY (n+2) σ (gg v.x v.k v.t l.w0) (gg v.x v.k v.t r.w0) ⟨by simp[gg];exact aj f0 rfl,by simp[gg];exact aj f1 rfl⟩ ⟨by simp[gg];exact aj g0 rfl,by simp[gg];exact aj g1 rfl⟩;rw[e] at ho hw h1 ⊢;unfold jC;dsimp only[ag9,Option.bind];cases hq:bt v (BG ⟨hs,.eq l r⟩) with
   |true=>
    rw[hq] at q;exact jS (run G (CF (n+3)) Om [Dv (.str (st 6)),Dv (eW (eL v.x v.k v.t)),Dv (.tuple [.list (hs.map bf),.tuple [eW (bG l.w0 r.w0),eW (bG l.w1 r.w1),eW (bG l.w2 r.w2),tM l l1 l2,tM r r1 r2]]),none,none] σ [.r _,.r _,.r _,.o _] ho hw hh q)
   |false=>
    rw[hq] at q;exact jS (run G (CF (n+3)) Om [Dv (.str (st 6)),Dv (eW (eL v.x v.k v.t)),Dv (.tuple [.list (hs.map bf),.tuple [eW (bG l.w0 r.w0),eW (bG l.w1 r.w1),eW (bG l.w2 r.w2),tM l l1 l2,tM r r1 r2]]),none,none] σ [.r _,.r _,.r _,.o _,.r _,.r _,.r _,.r _] ho hw hh q h1 h2 h3 h4)
def aar:Option (List Th×iu)->PyData
 |some t=>.list (t.1.map dP)
 |none=>.none
theorem z8(n:Nat)(hn:400<=n)(σ:ae)(pv:V)(ai:List mi)(R7:ou gX pv σ=.ok (.d (.tuple (ai.map bC))) σ)(hl:ai.length<=400)(hg:ahk ([],[]) ai):CF (n+3) 43 [pv] σ=.ok (.d (aar (ez bS ([],[]) ai))) σ:=by
 have h:=BC n hn σ ai hl hg;cases hf:ez bS ([],[]) ai with
 |some t=>
  rw[hf] at h;exact jS (run G (CF (n+2)) ZX [some pv,none] σ [.r _,.r _] R7 h)
 |none=>
  rw[hf] at h;exact jS (run G (CF (n+2)) ZX [some pv,none] σ [.r _,.r _] R7 h)
theorem uJ(n:Nat)(hn:400<=n)(σ:ae)(s m:Nat)(ai:List mi)(x:mi)(hs:σ[s]?=some (.lst (ai.map bC)))(hl:ai.length<=300)(hg:ahk ([],[]) (ai++[x]))(hf:ez bS ([],[]) (ai++[x])=none):CF (n+4) 44 [.loc s,.loc m,.d (bC x),.d .none] σ=.ok (.d (.bool false)) σ:=by
 have h1:oq (agK .add) (.loc s) (.d (.list [bC x])) σ=.ok (.d (.list ((ai++[x]).map bC))) σ:=by
  unfold oq;simp only[aE,hs,Res.bx,Res.ax];rw[ij (by simp only[lim,bR,List.length_cons,List.length_nil];exact d9 hl rfl),List.map_append];rfl
 have h2:=z8 n hn σ (.d (.list ((ai++[x]).map bC))) (ai++[x]) (by rw[LG,pB _ (by simp only[lim,bR,cO,List.length_cons,List.length_nil];exact d9 hl rfl)];rfl) (by rw[cO,List.length_singleton];exact d9 hl rfl) hg;rw[hf] at h2;exact jS (run G (CF (n+3)) XC [some (.loc s),some (.loc m),Dv (bC x),Dv .none] σ [.r _,.r _] h1 h2)
theorem uK(n:Nat)(σ:ae)(s m:Nat)(eZ:s≠m)(xs ys l:List PyData)(d:PyData)(hs:σ[s]?=some (.lst xs))(hm:σ[m]?=some (.lst ys))(h1:xs.length<=1000)(h2:ys.length<=1000):CF (n+1) 44 [.loc s,.loc m,.d d,.d (.tuple l)] σ=.ok (.d (.bool false)) ((σ.set s (.lst (xs++[d]))).set m (.lst (ys++[.tuple l]))):=by
 have a1:exS G (CF n) (.app 0 (.var 2)) [some (.loc s),some (.loc m),Dv d,Dv (.tuple l)] σ=.next [some (.loc s),some (.loc m),Dv d,Dv (.tuple l)] (σ.set s (.lst (xs++[d]))):=by
  rw[zM _ rfl hs];show EF s _ (.d d) _=_;rw[qr _ hs (by simp only[lim];exact aj h1 rfl)]
 have sA:(σ.set s (.lst (xs++[d])))[m]?=some (.lst ys):=by rw[List.getElem?_set_ne eZ];exact hm
 have a2:exS G (CF n) (.app 1 (.var 3)) [some (.loc s),some (.loc m),Dv d,Dv (.tuple l)] (σ.set s (.lst (xs++[d])))=.next [some (.loc s),some (.loc m),Dv d,Dv (.tuple l)] ((σ.set s (.lst (xs++[d]))).set m (.lst (ys++[.tuple l]))):=by
  rw[zM _ rfl sA];show EF m _ (.d (.tuple l)) _=_;rw[qr _ sA (by simp only[lim];exact aj h2 rfl)]
 have hr:=run G (CF n) XC [some (.loc s),some (.loc m),Dv d,Dv (.tuple l)] σ [.x _,.x _] a1 a2;show agO σ.length (aD G (CF n) XC [some (.loc s),some (.loc m),Dv d,Dv (.tuple l)] σ)=_;rw[hr,CY,List.take_of_length_le (by simp)]
theorem mod_int(a b:Int)(h:0<b):agK .mod (.int a) (.int b)=some (.int (Int.fmod a b)):=by rw[Gf,if_pos h]
theorem c8(a:Int)(b:Nat)(h:0<b):∃r:Nat,r<b/\Int.fmod a b=r:=by
 have h1:0<=Int.fmod a b:=Int.fmod_nonneg_of_pos a (by exact(s7 h :));have h2:Int.fmod a b<b:=Int.fmod_lt_of_pos a (by exact(s7 h :));exact⟨(Int.fmod a b).toNat,(Int.toNat_lt h1).mpr h2,(Int.toNat_of_nonneg h1).symm⟩
theorem nT{a b:List PyData}(h:a.length+b.length<=1000):agK .add (.list a) (.list b)=some (.list (a++b)):=ij (by simp only[lim];exact aj h rfl)
theorem sj{G:List PyData}{C:aG}:∀(a b:List S) (fr:agq) (σ:ae),aD G C (a++b) fr σ=(aD G C a fr σ).andThen (aD G C b)
 |[],b,fr,σ=>by rw[List.nil_append,QE,gZ]
 |s::a,b,fr,σ=>by
  rw[List.cons_append,CX,CX];cases exS G C s fr σ with
  |next aR aM=>rw[gZ,gZ];exact sj a b aR aM
  |ret v aM=>rfl
  |err aM=>rfl
  |stuck=>rfl
mutual
def Jc:PyData->Bool
 |.list xs=>kr xs
 |.tuple xs=>kr xs
 |.dict _=>false
 |.none=>true
 |.bool _=>true
 |.int _=>true
 |.str _=>true
def kr:List PyData->Bool
 |[]=>true
 |x::xs=>Jc x&&kr xs
end
theorem wD:Jc (.tuple xs)=(kr xs):=rfl
theorem WU:Jc (.dict u1)=(false):=rfl
theorem z9:Jc (.str u1)=(true):=rfl
theorem wF:kr ([])=(true):=rfl
theorem sk:kr (x::xs)=(Jc x&&kr xs):=rfl
mutual
theorem Aa:∀x:PyData,Jc x=true->PyData.eqv x x=true
 |.none,_=>rfl
 |.bool b,_=>by induction b<;>rfl
 |.int i,_=>show(i==i)=true from beq_self_eq_true i
 |.str s,_=>show(s==s)=true from beq_self_eq_true s
 |.list xs,h=>show PyData.eqvAll xs xs=true from nv xs h
 |.tuple xs,h=>show PyData.eqvAll xs xs=true from nv xs h
 |.dict fc,h=>by simp[WU] at h
theorem nv:∀xs:List PyData,kr xs=true->PyData.eqvAll xs xs=true
 |[],_=>rfl
 |x::xs,h=>by
  simp only[sk,dN] at h;rw[di,Aa x h.1,nv xs h.2];rfl
end
theorem uL:∀t:Ty,Jc (cI t)=true
 |.bool=>rfl
 |.ind=>rfl
 |.any _=>rfl
 |.fn a b=>by simp[EB,wD,z9,wF,sk,uL a,uL b]
theorem uM:∀t:Tm,Jc (ay t)=true
 |.var _ _ t=>by simp[V8,wD,z9,wF,sk,uL t]
 |.con _ t=>by simp[V9,wD,z9,wF,sk,uL t]
 |.app f a=>by simp[Wa,wD,z9,wF,sk,uM f,uM a]
 |.lam _ _ t b=>by simp[Wb,wD,z9,wF,sk,uL t,uM b]
theorem xS{α:Type}{enc:α->PyData}(h:∀a,Jc (enc a)=true):∀l:List α,kr (l.map enc)=true
 |[]=>rfl
 |a::l=>by simp[sk,h a,xS h l]
theorem Q9(t:Th):Jc (dP t)=true:=by simp[dP,wD,wF,sk,xS uM,uM]
theorem ry{α:Type}{enc:α->PyData}{D:Nat}:∀l:List α,(∀a∈l,(enc a).depth<=D)->PyData.depthAll (l.map enc)<=D
 |[],_=>by simp[vA]
 |a::l,h=>by
  have:=h a dC
  have:=ry l λ b hb=>h b (d8 _ hb)
  simp only[List.map_cons,uW];(apply cV<;>(first|assumption|exact this))
section
variable {G:List PyData}{n r:Nat}{α β:Type}{P:Nat->Prop}
theorem Jd{t:Th}(h:oh t):(dP t).depth<=70:=by
 have:=mZ t.c
 have:=h.c.dp
 have:=ry (enc:=ay) (D:=62) t.hs λ q hq=>by have:=mZ q;have:=(h.hs q hq).dp;with_reducible exact fK ‹_› this rfl
 simp only[dP,u5,vA,uW];(apply kD;(apply cV<;>(first|exact d9 this rfl|(with_reducible apply cV<;>(first|exact dk|with_reducible exact fK ‹_› ‹_› rfl)))))
theorem ahq{x:PyData}(hp:Jc x=true)(hd:x.depth<=1000):d0 .ne x x=some (.bool false):=by
 refine cN _ _ _ ?_;rw[vB,if_pos (.inl (by simp only[fj];exact hd)),Aa x hp];rfl
theorem fP{C:aG}{a b:List S}{fr aR:agq}{σ aM:ae}(h:aD G C a fr σ=.next aR aM):aD G C (a++b) fr σ=aD G C b aR aM:=by rw[sj,h,gZ]
theorem iz{a:Int}{b:Nat}(hb:0<b)(h:Int.fmod a b=r):agK .mod (.int a) (.int b)=some (.int r):=by rw[mod_int _ _ (by exact(s7 hb :)),h]
noncomputable def sq:Ty:=.any .a
def pW:Wt:=eL .p 0 .bool
def xW:Wt:=eL .x 0 .bool
def xT:Wt:=eL .x 1 .bool
def WV:Wt:=eL .z 0 sq
noncomputable def mW:Wt:=⟨.con .M .bool,.cn .M,.bool,[],[]⟩
theorem Sa{P:α->Prop}{a:α}{l:List α}(h:P a)(t:∀x∈l,P x):∀x∈a::l,P x:=List.forall_mem_cons.mpr ⟨h,t⟩
theorem kZ{P:α->Prop}{l:List α}{d:α}(h:∀x∈l,P x)(hd:P d)(i:Nat):P (l.getD i d):=by
 rw[jG];cases e:l[i]? with
 |none=>exact hd
 |some x=>exact h x (dH e)
theorem ag0(f:α->β){l:List α}{d:α}{i:Nat}:f (l.getD i d)=(l.map f).getD i (f d):=by
 rw[jG,jG,List.getElem?_map];cases l[i]?<;>rfl
def bb(i:Nat):Wt:=[pW,xW,xT,bG xW xT,cP (cP kW xW) pW,mW].getD i (WV)
def Ra:List Wt:=[bb 0,bb 1,bb 2,bb 3,bb 4,bb 5,bb 6]
def FF:Nat->Ty
 |0=>.bool
 |1=>.ind
 |2=>.fn sq .bool
 |_=>sq
def gh:Nat->List Tp
 |0=>[(.a,.bool)]
 |1=>[(.b,.bool),(.a,.ind)]
 |2=>[(.a,.fn sq .bool)]
 |_=>[(.b,.ind)]
def vL:Nat->Vr
 |0=>⟨.p,0,.bool⟩
 |1=>⟨.x,0,.bool⟩
 |2=>⟨.x,1,.bool⟩
 |_=>⟨.z,0,sq⟩
def vWt(v:Vr):Wt:=eL v.x v.k v.t
def Mb(i:Nat):PyData:=.tuple [.tuple ((gh i).map rm),cI (FF i)]
def eX:Nat->Tm
 |0=>.lam .z 0 sq (.con .K two)
 |1=>.lam .x 0 .bool (.con .eq (.fn sq (.fn sq .bool)))
 |2=>.lam .g 0 (.fn .bool sq) (.con .K two)
 |3=>.app (.con .K two) (.var .x 0 .bool)
 |_=>.con .N two
def aat:List Tm:=[.app (.var .p 0 .bool) (.var .p 0 .bool),.app (.con .K two) (.var .z 0 sq),.con .eq .bool,.con .eq (.fn .bool (.fn sq .bool)),.con .K .bool,.lam .p 0 .bool (.con .M .bool)]
def om(b:Nat):Tm:=aat.getD b (.app (.app (.con .K two) (.var .p 0 .bool)) (.con .M .bool))
structure dq where
 n0:Nat
 n2:Nat
 d:Nat
 u:Nat
 w:Nat
 e:Nat
 b:Nat
structure dq.Ok(A:dq):Prop where
 n0:A.n0<4
 n2:A.n2<4
 d:A.d<11
 u:A.u<7
 w:A.w<7
 e:A.e<4
 b:A.b<7
def iG(u w e:Wt)(t:Ty)(i:Nat):Wt:=[e,u,w,cP (cP kW u) w,cP (eL .f 0 (.fn t .bool)) (eL .z 0 t),eL .z 0 .bool,gg .z 0 t (eL .z 0 .bool),g0W u (jW (.p,0) u.fv),g1W u].getD i (g2W w (jW (.x,1) w.fv))
def dq.part(A:dq)(i:Nat):Mf:=.jV (iG pW xT xW sq i) (iG (bb A.u) (bb A.w) (bb A.e) sq i) (iG pW xT xW (FF A.e) i)
noncomputable def dq.parts(A:dq):List Mf:=[A.part 0,A.part 1,A.part 2,A.part 3,A.part 4,A.part 5,A.part 6,A.part 7,A.part 8,A.part 9]
noncomputable def rA(p:Nat->Mf):List Mf:=[p 0,p 1,.eq (p 2) (p 0),.eq (p 1) (p 2),p 3,.eq (p 7) (p 9),.eq (p 8) (p 9),p 4,p 5]
def dq.entry(A:dq)(i:Nat):Mf:=(rA A.part).getD i (A.part 6)
noncomputable def dq.entries(A:dq):List Mf:=[A.entry 0,A.entry 1,A.entry 2,A.entry 3,A.entry 4,A.entry 5,A.entry 6,A.entry 7,A.entry 8,A.entry 9]
def dq.qC(A:dq):List Tm:=A.entries.map (λ m=>m.w0.tm)++[om A.b]
def bz:Nat->Wt
 |0=>z6 .x .y 1
 |1=>z6 .x .x 0
 |2=>z6 .y .x 1
 |_=>z6 .x .y 0
noncomputable def jY(w:Wt):Mf:=.jV w w w
def dq.hk(A:dq):Mf:=jY (bz A.n0)
def dq.h(A:dq):Mf:=jY (bz A.n2)
def kM:Mf:=jY kW
def nM:Mf:=jY nW
def dq.pD(A:dq):List mi:=[.define .K (bz A.n0).tm,.refl (bz A.n2).tm]
def dq.rB(A:dq):List Tt:=[⟨[],.eq kM A.hk⟩,⟨[],.eq A.h A.h⟩]
noncomputable def Fb:Nat->Cn
 |4=>.K
 |5=>.eq
 |_=>.N
def dq.BI(A:dq)(d:Nat):Tm:=(List.replicate 6 (bz A.n2).tm++[eX 0,eX 1,eX 2,eX 3,eX 4]).getD d (bz A.n2).tm
def dq.gT(A:dq):Option Tt:=if A.d<4 then some ⟨[],.eq nM A.h⟩ else none
noncomputable def J8(s:Nat->Int)(agv:List PyData):PyData:=.list (.int (s 0)::.int (s 1)::.int (s 2)::.int (s 3)::.int (s 4)::.int (s 5)::.int (s 6)::.int (s 7)::.int (s 8)::.int (s 9)::.int (s 10)::.int (s 11)::.int (s 12)::.int (s 13)::.int (s 14)::.int (s 15)::.int (s 16)::.int (s 17)::.int (s 18)::.int (s 19)::.int (s 20)::.int (s 21)::.int (s 22)::.int (s 23)::agv)
theorem iH:∀k,k<0->P k:=λ k q=>absurd q (Nat.not_lt_zero k)
theorem aB(h:P n)(r:∀k,k<n->P k):∀k,k<n+1->P k:=λ k q=>(Nat.lt_or_eq_of_le (Nat.le_of_lt_succ q)).elim (r k) λ e=>e▸h
end
theorem AF{P:Nat->Prop}{n:Nat}(h:∀k,k<n->P k):∀{k:Nat},k<n->P k:=λ{k}=>h k
section
variable {i n:Nat}
structure dq.Of(A:dq)(s:Nat->Int):Prop where
 n0:Int.fmod (s 0) 4=A.n0
 n2:Int.fmod (s 2) 4=A.n2
 d:Int.fmod (s 1) 11=A.d
 u:Int.fmod (s 3) 7=A.u
 w:Int.fmod (s 4) 7=A.w
 e:Int.fmod (s 5) 4=A.e
 b:Int.fmod (s 5) 7=A.b
theorem xU(i:Nat):WS (bb i):=kZ (λ x hx=>by
 have h:=fX.mp (show([pW,xW,xT,bG xW xT,cP (cP kW xW) pW,mW].all λ w=>Nat.ble w.fv.length 4&&Nat.ble w.bv.length 4)=true by decide +kernel) x hx;exact⟨ao (dB (oy.mp h).1) (by decide),ao (dB (oy.mp h).2) (by decide)⟩) ⟨by decide,by decide⟩ i
theorem WW:WS pW:=xU 0
theorem OR:WS xT:=xU 2
theorem xV(h:i<7):dD (.list [eW (bb 0),eW (bb 1),eW (bb 2),eW (bb 3),eW (bb 4),eW (bb 5),eW (bb 6)]) (.int i)=some (eW (bb i)):=by
 revert h;revert i;exact @AF _ _ (aB rfl (aB rfl (aB rfl (aB rfl (aB rfl (aB rfl (aB rfl iH)))))))
theorem Mc(h:i<4):dD (.tuple [Mb 0,Mb 1,Mb 2,Mb 3]) (.int i)=some (.tuple [.tuple ((gh i).map rm),cI (FF i)]):=by
 revert h;revert i;exact @AF _ _ (aB rfl (aB rfl (aB rfl (aB rfl iH))))
theorem WX(h:i<4):dD (.tuple [eW pW,eW xW,eW xT,eW WV]) (.int i)=some (eW (vWt (vL i))):=by
 revert h;revert i;exact @AF _ _ (aB rfl (aB rfl (aB rfl (aB rfl iH))))
theorem Md(h:i<7):dD (.tuple [ay (om 0),ay (om 1),ay (om 2),ay (om 3),ay (om 4),ay (om 5),ay (om 6)]) (.int i)=some (ay (om i)):=by
 revert h;revert i;exact @AF _ _ (aB rfl (aB rfl (aB rfl (aB rfl (aB rfl (aB rfl (aB rfl iH)))))))
theorem Ab(h:i<4):dD (.tuple [eW (bz 0),eW (bz 1),eW (bz 2),eW (bz 3)]) (.int i)=some (eW (bz i)):=by
 revert h;revert i;exact @AF _ _ (aB rfl (aB rfl (aB rfl (aB rfl iH))))
abbrev FQ(s:Nat->Int)(agv:List PyData)(A:dq)(a16 a17 Sb a19 a20 a21 a22 a23 a24 a25 dQ eY:Option V:=none):agq:=
 [Dv (J8 s agv),Dv (eW pW),Dv (eW xW),Dv (eW xT),Dv (eW WV),Dv (.list (Ra.map eW)),Dv (eW (bb A.u)),Dv (eW (bb A.w)),Dv (eW (bb A.e)),Dv (.tuple ((gh A.e).map rm)),Dv (cI (FF A.e)),Dv (eW (vWt (vL A.e))),none,none,none,none,a16,a17,Sb,a19,a20,a21,a22,a23,a24,a25,dQ,eY,none,none,none,none,none,none,none,none,none,none]
theorem aaB(n:Nat)(s:Nat->Int)(agv:List PyData)(hr:agv.length<=100)(A:dq)(hA:A.Ok)(hO:A.Of s)(σ:ae):aD G (CF (n+410)) (iR.take 5) (Dv (J8 s agv)::List.replicate 37 none) σ=.next (FQ s agv A) σ:=by
 have agw:gr (J8 s agv)=some (.int (24+agv.length:Nat)):=by
  unfold J8;rw[agH _ (by simp only[lim,List.length_cons];exact aj (d7 hr 24) rfl)];simp only[List.length_cons];exact congrArg (λ k:Nat=>some (PyData.int k)) (by exact Nat.add_comm agv.length 24)
 have c0:=fi (fT ((24+agv.length:Nat):Int) 24) (by exact B2 (Nat.not_lt.mpr (cU 24 _)));have h1:=ix (n+409) σ .p 0 .bool;have h2:=ix (n+409) σ .x 0 .bool;have h3:=ix (n+409) σ .x 1 .bool;rw[←WK] at h3;have h4:=ix (n+409) σ .z 0 sq;have h5:=kY (n+409) σ xW xT (nk ..) (nk ..);have h6:=fC (n+409) σ kW xW rfl ⟨by decide,by decide⟩ (nk ..);have h7:=fC (n+409) σ (cP kW xW) pW rfl ⟨by decide,by decide⟩ (nk ..);have m3:=iz (by decide) hO.u;have m4:=iz (by decide) hO.w;have m5:=iz (by decide) hO.e;have i3:=xV hA.u;have i4:=xV hA.w;have i5:=xV (Nat.lt_trans hA.e (by decide));have t5:=Mc hA.e;have v5:=WX hA.e;exact run G (CF (n+410)) (iR.take 5) [Dv (J8 s agv),none,none,none,none,none,none,none,none,none,none,none,none,none,none,none,none,none,none,none,none,none,none,none,none,none,none,none,none,none,none,none,none,none,none,none,none,none] σ
  [.o _,.o _,.r _,.r _,.r _,.r _,.r _,.r _,.r _,.o _,.o _,.o _,.o _,.o _,.o _,.o _,.o _,.o _,.o _] agw c0 h1 h2 h3 h4 h5 h6 h7 m3 i3 m4 i4 m5 i5 m5 t5 m5 v5
noncomputable def WY(w:Wt):Bool:=Nat.ble w.fv.length 12&&(Nat.ble w.bv.length 12&&(Nat.ble w.nl.dp 20&&(Nat.ble w.ty.dp 6&&(Nat.ble w.tm.dp 14&&(Nat.ble w.tm.sz 30&&(Nat.ble w.tm.pk 5&&Nat.ble w.tm.vs 30))))))
structure Je(w:Wt):Prop where
 fv:w.fv.length<=12
 bv:w.bv.length<=12
 nl:w.nl.dp<=20
 ty:w.ty.dp<=6
 dp:w.tm.dp<=14
 sz:w.tm.sz<=30
 pk:w.tm.pk<=5
 vs:w.tm.vs<=30
theorem rC{w:Wt}(h:WY w=true):Je w:=by
 unfold WY at h;simp only[dN,Nat.ble_eq] at h;obtain⟨h1,h2,h3,h4,h5,h6,h7,h8⟩:=h;exact⟨h1,h2,h3,h4,h5,h6,h7,h8⟩
theorem aJ{p:Nat->Bool}(h:(List.range n).all p=true)(hi:i<n):p i=true:=fX.mp h i (List.mem_range.mpr hi)
end
theorem wG:((List.range 10).all λ i=>(List.range 7).all λ u=>(List.range 7).all λ w=>(List.range 4).all λ e=>WY (iG (bb u) (bb w) (bb e) sq i))=true:=by decide +kernel
theorem Fc:((List.range 10).all λ i=>(List.range 4).all λ e=>WY (iG pW xT xW (FF e) i))=true:=by decide +kernel
section
variable {A:dq}{i:Nat}
theorem Jf(hA:A.Ok)(hi:i<10):Je (iG (bb A.u) (bb A.w) (bb A.e) sq i):=rC (aJ (aJ (aJ (aJ wG hi) hA.u) hA.w) hA.e)
theorem Jg(hi:i<10):Je (iG pW xT xW sq i):=rC (aJ (aJ (aJ (aJ wG hi) (by decide:0<7)) (by decide:2<7)) (by decide:1<4))
theorem Jh(hA:A.Ok)(hi:i<10):Je (iG pW xT xW (FF A.e) i):=rC (aJ (aJ Fc hi) hA.e)
theorem OS{a b c:Wt}(ha:Je a)(hb:Je b)(hc:Je c):Mn (.jV a b c):=
 ⟨ao ha.fv (by decide),ao ha.bv (by decide),ao hb.fv (by decide),ao hb.bv (by decide),ao hc.fv (by decide),ao hc.bv (by decide),ao ha.nl (by decide),ao ha.ty (by decide)⟩
theorem jZ(hA:A.Ok)(hi:i<10):Mn (A.part i):=OS (Jg hi) (Jf hA hi) (Jh hA hi)
theorem Ac(lo hi:Nat)(xs:List PyData)(h:xs.length<=1000):pR lo hi (.list xs)=some (.list ((xs.take hi).drop lo)):=by
 unfold pR;dsimp only;rw[if_pos (by simp only[lim];exact aj h rfl)]
theorem aaC(n:Nat)(s:Nat->Int)(agv:List PyData)(A:dq)(hA:A.Ok)(hO:A.Of s)(σ:ae):aD G (CF (n+410)) ((iR.drop 5).take 2) (FQ s agv A) σ=.next (FQ s agv A (Dv (.list (A.parts.map bf))) (Dv (.list (A.entries.map bf)))) σ:=by
 have p0:=pz (n+408) σ pW xT xW sq WW OR;have p1:=pz (n+408) σ (bb A.u) (bb A.w) (bb A.e) sq (xU _) (xU _);have p2:=pz (n+408) σ pW xT xW (FF A.e) WW OR;have z:QJ G (CF (n+410)) 12 16 4 (.tup [(.var 39),(.var 40),(.var 41),(.con .none),(.con .none)]) (.tup [(.var 39),(.var 40),(.var 41)]) (FQ s agv A)
   [.d (.list ((uG pW xT xW sq).map eW)),.d (.list ((uG (bb A.u) (bb A.w) (bb A.e) sq).map eW)),.d (.list ((uG pW xT xW (FF A.e)).map eW))] σ=.next (FQ s agv A (Dv (.list (A.parts.map bf)))) σ:=rfl
 have e1:=fD (n+408) σ (A.part 2) (A.part 0) (jZ hA (by decide:2<10)).ml (jZ hA (by decide:0<10)).ml;have e2:=fD (n+408) σ (A.part 1) (A.part 2) (jZ hA (by decide:1<10)).ml (jZ hA (by decide:2<10)).ml;have e3:=fD (n+408) σ (A.part 7) (A.part 9) (jZ hA (by decide:7<10)).ml (jZ hA (by decide:9<10)).ml;have e4:=fD (n+408) σ (A.part 8) (A.part 9) (jZ hA (by decide:8<10)).ml (jZ hA (by decide:9<10)).ml;have s1:=Ac 0 2 (A.parts.map bf) (by simp[dq.parts]);have s2:=Ac 4 7 (A.parts.map bf) (by simp[dq.parts]);have b1:=nT (a:=[bf (A.part 0),bf (A.part 1)]) (b:=[bf (.eq (A.part 2) (A.part 0)),bf (.eq (A.part 1) (A.part 2)),bf (A.part 3),bf (.eq (A.part 7) (A.part 9)),bf (.eq (A.part 8) (A.part 9))]) (by simp);have b2:=nT (a:=[bf (A.part 0),bf (A.part 1)]++[bf (.eq (A.part 2) (A.part 0)),bf (.eq (A.part 1) (A.part 2)),bf (A.part 3),bf (.eq (A.part 7) (A.part 9)),bf (.eq (A.part 8) (A.part 9))]) (b:=[bf (A.part 4),bf (A.part 5),bf (A.part 6)]) (by simp);exact run G (CF (n+410)) ((iR.drop 5).take 2) (FQ s agv A) σ
  [.r _,.r _,.r _,.x _,.o _,.r _,.r _,.r _,.r _,.o _,.o _,.o _] p0 p1 p2 z s1 e1 e2 e3 e4 b1 s2 b2
end
abbrev FP(s:Nat->Int)(agv:List PyData)(A:dq)(Sb a19 a20 a21 a22 a23 a24 a25 dQ eY:Option V:=none):agq:=
 FQ s agv A (Dv (.list (A.parts.map bf))) (Dv (.list (A.entries.map bf))) Sb a19 a20 a21 a22 a23 a24 a25 dQ eY
theorem Ji(n:Nat)(s:Nat->Int)(agv:List PyData)(A:dq)(σ:ae):evE G (CF n) (.comp 2 (.idx (Qx 39 0) (Qi 0)) (.var 39) (.var 17) []) (FP s agv A) σ=.ok (.d (.list (A.entries.map λ m=>ay m.w0.tm))) σ:=by
 refine sW bf (λ m=>ay m.w0.tm) rfl rfl (by simp[dq.entries,lim]) λ m _=>?_;obtain⟨l,r,e⟩:=eA m;rw[e];rfl
def ny:List Wt:=[bz 0,bz 1,bz 2,bz 3]
theorem Me(n:Nat)(s:Nat->Int)(agv:List PyData)(A:dq)(hA:A.Ok)(hO:A.Of s)(σ:ae)(Sb:Option V):evE G (CF n) (.comp 2 (.tup [(.var 39),(.var 39),(.var 39),(.con .none),(.con .none)]) (.var 39) (.tup [(.idx (.var 19) (.bin .mod (Qx 0 0) (Qi 4))),(.idx (.var 19) (.bin .mod (Qx 0 2) (Qi 4))),(.glob 4),(.glob 5)]) [])
   (FP s agv A Sb (Dv (.tuple (ny.map eW)))) σ=.ok (.d (.list [bf A.hk,bf A.h,bf kM,bf nM])) σ:=by
 have hi:=gR G (CF n) (.tup [(.idx (.var 19) (.bin .mod (Qx 0 0) (Qi 4))),(.idx (.var 19) (.bin .mod (Qx 0 2) (Qi 4))),(.glob 4),(.glob 5)])
  (FP s agv A Sb (Dv (.tuple (ny.map eW)))) σ [.o _,.o _,.o _,.o _] (iz (by decide) hO.n0) (Ab hA.n0) (iz (by decide) hO.n2) (Ab hA.n2)
 exact sW eW (λ w=>bf (jY w)) (items:=[bz A.n0,bz A.n2,kW,nW]) hi rfl (by simp[lim]) λ w _=>rfl
theorem aaD(n:Nat)(s:Nat->Int)(agv:List PyData)(A:dq)(hA:A.Ok)(hO:A.Of s)(σ:ae):aD G (CF (n+410)) ((iR.drop 7).take 3) (FP s agv A) σ=.next (FP s agv A (Dv (.list (A.qC.map ay))) (Dv (.tuple (ny.map eW))) (Dv (bf A.hk)) (Dv (bf A.h)) (Dv (bf kM)) (Dv (bf nM))) σ:=by
 have t1:=Ji (n+410) s agv A σ;have m5:=iz (by decide) hO.b;have b5:=Md hA.b;have ha:agK .add (.list (A.entries.map λ m=>ay m.w0.tm)) (.list [ay (om A.b)])=some (.list (A.qC.map ay)):=by
  rw[nT (by simp[dq.entries])];refine bO (List.map_append ..) ?_;refine bO (List.map_map ..) ?_;rfl
 have n1:=nR (n+408) σ .x .y 1 (.inr rfl);have n2:=nR (n+408) σ .x .x 0 (.inl rfl);have n3:=nR (n+408) σ .y .x 1 (.inr rfl);have n4:=nR (n+408) σ .x .y 0 (.inl rfl);have hs:=Me (n+410) s agv A hA hO σ (Dv (.list (A.qC.map ay)));exact run G (CF (n+410)) ((iR.drop 7).take 3) (FP s agv A) σ [.r _,.o _,.o _,.o _,.r _,.r _,.r _,.r _,.r _] t1 m5 b5 ha n1 n2 n3 n4 hs
abbrev S2(ai:List mi)(model:List Tt):ae:=[.lst (ai.map bC),.lst (model.map iB)]
abbrev FM(s:Nat->Int)(agv:List PyData)(A:dq)(dQ eY:Option V):agq:=
 FP s agv A (Dv (.list (A.qC.map ay))) (Dv (.tuple (ny.map eW))) (Dv (bf A.hk)) (Dv (bf A.h)) (Dv (bf kM)) (Dv (bf nM)) (some (.loc 0)) (some (.loc 1)) dQ eY
theorem Jj:((List.range 4).all λ i=>WY (bz i))=true:=by decide +kernel
theorem sX{i:Nat}(h:i<4):Je (bz i):=rC (aJ Jj h)
theorem aaE:Je kW:=rC (by decide +kernel)
theorem aaF:Je nW:=rC (by decide +kernel)
theorem nU{w:Wt}(h:Je w):Mn (jY w):=OS h h h
def oJ:Option Tt->PyData
 |some t=>iB t
 |none=>.none
theorem aaG(n:Nat)(s:Nat->Int)(agv:List PyData)(A:dq)(hA:A.Ok)(hO:A.Of s):aD G (CF (n+410)) ((iR.drop 10).take 4) (FP s agv A (Dv (.list (A.qC.map ay))) (Dv (.tuple (ny.map eW))) (Dv (bf A.hk)) (Dv (bf A.h)) (Dv (bf kM)) (Dv (bf nM))) [] =
   .next (FM s agv A (Dv (.int A.d)) (Dv (oJ A.gT))) (S2 A.pD A.rB):=by
 have h1:=fD (n+408) [agS.lst (A.pD.map bC)] kM A.hk (nU aaE).ml (nU (sX hA.n0)).ml;have h2:=fD (n+408) [agS.lst (A.pD.map bC)] A.h A.h (nU (sX hA.n2)).ml (nU (sX hA.n2)).ml;have m1:=iz (by decide) hO.d;unfold dq.gT;by_cases hd:A.d<4
 .have h3:=fD (n+408) (S2 A.pD A.rB) nM A.h (nU aaF).ml (nU (sX hA.n2)).ml;rw[if_pos hd];exact run G (CF (n+410)) ((iR.drop 10).take 4) (FP s agv A (Dv (.list (A.qC.map ay))) (Dv (.tuple (ny.map eW))) (Dv (bf A.hk)) (Dv (bf A.h)) (Dv (bf kM)) (Dv (bf nM))) ([]:ae)
   [.r _,.r _,.o _,.o _,.r _] h1 h2 m1 (jX (fT (A.d:Int) 4) (by exact(s7 hd :))) h3
 .refine bO (if_neg hd ..) ?_;exact run G (CF (n+410)) ((iR.drop 10).take 4) (FP s agv A (Dv (.list (A.qC.map ay))) (Dv (.tuple (ny.map eW))) (Dv (bf A.hk)) (Dv (bf A.h)) (Dv (bf kM)) (Dv (bf nM))) ([]:ae)
   [.r _,.r _,.o _,.o _] h1 h2 m1 (fi (fT (A.d:Int) 4) (by exact(B2 hd :)))
def tyC:Cn->Ty
 |.K=>two
 |.N=>two
 |_=>.bool
def uZ:Nat->Nl->Db
 |_,.vr x k t=>.var x k t
 |_,.cn c=>.con c (tyC c)
 |n,.bd i=>.bound (n - 1 - i)
 |n,.app f a=>.app (uZ n f) (uZ n a)
 |n,.lam t b=>.lam t (uZ (n+1) b)
 |n,.equ t a b=>.app (.app (.con .eq (.fn t (.fn t .bool))) (uZ n a)) (uZ n b)
theorem sr:uZ u1 (.vr x k t)=(.var x k t):=rfl
theorem su:uZ u1 (.cn c)=(.con c (tyC c)):=rfl
theorem sv:uZ n (.bd i)=(.bound (n - 1 - i)):=rfl
theorem oK:uZ n (.app f a)=(.app (uZ n f) (uZ n a)):=rfl
theorem qD:uZ n (.lam t b)=(.lam t (uZ (n+1) b)):=rfl
theorem oL:uZ n (.equ t a b)=(.app (.app (.con .eq (.fn t (.fn t .bool))) (uZ n a)) (uZ n b)):=rfl
noncomputable def sG:Nat->Nl->Bool
 |_,.vr _ _ _=>true
 |_,.cn c=>!c.same .eq
 |n,.bd i=>Nat.blt i n
 |n,.app f a=>sG n f&&sG n a
 |n,.lam _ b=>sG (n+1) b
 |n,.equ _ a b=>sG n a&&sG n b
theorem WZ:sG u1 (.cn c)=(!c.same .eq):=rfl
theorem W3:sG n (.bd i)=(Nat.blt i n):=rfl
theorem Dr:sG n (.app f a)=(sG n f&&sG n a):=rfl
theorem W4:sG n (.lam u1 b)=(sG (n+1) b):=rfl
theorem OT:sG n (.equ u1 a b)=(sG n a&&sG n b):=rfl
theorem Mg{n:Nat}{f:Nl}{t:Ty}(h:sG n f=true):uZ n f≠.con .eq t:=by
 intro e;induction f with
 |cn c=>
  simp only[su,Db.con.injEq] at e;rw[e.1] at h;simp[WZ,Cn.same] at h
 |_=>simp[sr,sv,oK,qD,oL] at e
theorem Ad{n:Nat}{f:Nl}{t:Ty}{a:Db}(h:sG n f=true):uZ n f≠.app (.con .eq t) a:=by
 intro e;induction f with
 |app g b=>
  simp only[oK,Db.app.injEq] at e;simp only[Dr,dN] at h;exact Mg h.1 e.1
 |equ s l r=>simp[oL] at e
 |_=>simp[sr,su,sv,qD] at e
theorem Mh:∀{a b:Nl} {n:Nat},sG n a=true->sG n b=true->uZ n a=uZ n b->a=b:=by
 intro a;induction a with
 |vr x k t=>intro b n ha hb h;induction b<;>simp_all[sr,su,sv,oK,qD,oL]
 |cn c=>intro b n ha hb h;induction b<;>simp_all[sr,su,sv,oK,qD,oL]
 |bd i=>
  intro b n ha hb h;induction b<;>simp only[sr,su,sv,oK,qD,oL,Db.bound.injEq,reduceCtorEq] at h
  simp only[W3,Nat.blt_eq] at ha hb;congr 1;exact TB ha hb h
 |app f a iX gd=>
  intro b n ha hb h;simp only[Dr,dN] at ha;induction b with
  |app g c=>
   simp only[Dr,dN] at hb;simp only[oK,Db.app.injEq] at h;simp only[iX ha.1 hb.1 h.1,gd ha.2 hb.2 h.2]
  |equ t l r=>
   simp only[oK,oL,Db.app.injEq] at h;exact absurd h.1 (Ad ha.1)
  |_=>simp[sr,su,sv,oK,qD] at h
 |lam t a ih=>
  intro b n ha hb h;induction b with
  |lam u c=>
   simp only[W4] at ha hb;simp only[qD,Db.lam.injEq] at h;simp only[h.1,ih ha hb h.2]
  |_=>simp[sr,su,sv,oK,qD,oL] at h
 |equ t a b gd Ez=>
  intro c n ha hb h;simp only[OT,dN] at ha;induction c with
  |app g c=>
   simp only[Dr,dN] at hb;simp only[oK,oL,Db.app.injEq] at h;exact absurd h.1.symm (Ad hb.1)
  |equ u l r=>
   simp only[OT,dN] at hb;simp only[oL,Db.app.injEq,Db.con.injEq,true_and,Ty.fn.injEq] at h;simp only[h.1.1.1,gd ha.1 hb.1 h.1.2,Ez ha.2 hb.2 h.2]
  |_=>simp[sr,su,sv,qD,oL] at h
structure WN(w:Wt):Prop where
 nm:ag5 w.tm []=uZ 0 w.nl
 sc:sG 0 w.nl=true
theorem qE{a b:Wt}(ha:WN a)(hb:WN b):alike a.tm b.tm=a.nl.eq b.nl:=by
 unfold alike;rw[ha.nm,hb.nm,Bool.eq_iff_iff,Db.eq_iff,Nl.eq_iff];exact⟨Mh ha.sc hb.sc,λ h=>by rw[h]⟩
theorem Rb{f a:Wt}(hf:WN f)(ha:WN a):WN (cP f a):=⟨by show Db.app _ _=Db.app _ _;simp only[hf.nm,ha.nm],by show(sG 0 f.nl&&sG 0 a.nl)=true;rw[hf.sc,ha.sc];rfl⟩
theorem Rc{a b:Wt}(ha:WN a)(hb:WN b):WN (bG a b):=⟨by show Db.app (.app _ _) _=Db.app (.app _ _) _;simp only[ha.nm,hb.nm];rfl,by show(sG 0 a.nl&&sG 0 b.nl)=true;rw[ha.sc,hb.sc];rfl⟩
def W5:List Ty->Nl->Ty
 |_,.vr _ _ t=>t
 |_,.cn c=>tyC c
 |e,.bd i=>(e[i]?).getD .bool
 |e,.app f _=>BD (W5 e f)
 |e,.lam t b=>.fn t (W5 (t::e) b)
 |_,.equ _ _ _=>.bool
def S0:List Vr:=[⟨.p,0,.bool⟩,⟨.x,0,.bool⟩,⟨.x,1,.bool⟩,⟨.y,0,.bool⟩,⟨.z,0,.bool⟩,⟨.z,0,sq⟩,⟨.f,0,.fn sq .bool⟩]
noncomputable def Jk:Tm->Bool
 |.con c _=>!c.same .eq
 |.app (.con c _) _=>!c.same .eq
 |_=>true
structure W0(w:Wt):Prop where
 n:WN w
 ty:ags w.tm=some w.ty
 tn:W5 [] w.nl=w.ty
 fv:∀v,v∈aS w.tm↔v∈w.fv
 vs:∀v,v∈aH w.tm []↔v∈w.fv++w.bv
 s0:∀v∈w.fv++w.bv,v∈S0
 hd:Jk w.tm=true
def ag6(u w e:Nat):List Pr:=[(⟨.p,0,.bool⟩,(bb u).tm),(⟨.x,1,.bool⟩,(bb w).tm),(⟨.x,0,.bool⟩,(bb e).tm)]
structure W1(u w e:Nat)(a b:Wt):Prop where
 ty:b.ty=a.ty
 pt:put a.tm (ag6 u w e)=b.tm
structure W2(e:Nat)(a b:Wt):Prop where
 ty:b.ty=eG (gh e) a.ty
 pt:aY (gh e) a.tm=b.tm
 fv:b.fv=a.fv.map (gM (gh e))
 bv:b.bv=a.bv.map (gM (gh e))
def F1(a b:Wt):Prop:=ahd a.ty->b.ty=a.ty
def W6(w:Wt):Bool:=(ag5 w.tm []).eq (uZ 0 w.nl)&&sG 0 w.nl
noncomputable def Rd(o:Option Ty)(t:Ty):Bool:=match o with
 |some s=>s.eq t
 |none=>false
def Fd(a b:List Vr):Bool:=a.all λ v=>bt v b
def XN(w:Wt):Bool:=W6 w&&(Rd (ags w.tm) w.ty&&((W5 [] w.nl).eq w.ty&&(Fd (aS w.tm) w.fv&&(Fd w.fv (aS w.tm)&&(Fd (aH w.tm []) (w.fv++w.bv)&&(Fd (w.fv++w.bv) (aH w.tm [])&&(Fd (w.fv++w.bv) S0&&Jk w.tm)))))))
def XO(u w e:Nat)(a b:Wt):Bool:=b.ty.eq a.ty&&(put a.tm (ag6 u w e)).eq b.tm
noncomputable def Rf(a b:Wt):Bool:=match a.ty with
 |.fn _ _=>b.ty.eq a.ty
 |_=>true
noncomputable def Jl:List Vr->List Vr->Bool
 |[],r=>r.isEmpty
 |a::l,r=>match r with
  |b::r=>a.eq b&&Jl l r
  |[]=>false
def XQ(e:Nat)(a b:Wt):Bool:=b.ty.eq (eG (gh e) a.ty)&&((aY (gh e) a.tm).eq b.tm&&(Jl b.fv (a.fv.map (gM (gh e)))&&Jl b.bv (a.bv.map (gM (gh e)))))
theorem BJ{w:Wt}(h:W6 w=true):WN w:=by
 simp only[W6,dN,Db.eq_iff] at h;exact⟨h.1,h.2⟩
theorem xX{o:Option Ty}{t:Ty}(h:Rd o t=true):o=some t:=by
 induction o with
 |none=>exact Bool.noConfusion h
 |some s=>exact congrArg some (Ty.eq_iff.mp h)
theorem qF{a b:List Vr}(h:Fd a b=true):∀v∈a,v∈b:=λ v hv=>gA.mp (fX.mp h v hv)
theorem xY:∀{a b:List Vr},Jl a b=true->a=b
 |[],[],_=>rfl
 |[],_::_,h=>Bool.noConfusion h
 |_::_,[],h=>Bool.noConfusion h
 |a::l,b::r,h=>by
  have h:=oy.mp (show(a.eq b&&Jl l r)=true from h);rw[Vr.eq_iff.mp h.1,xY h.2]
section
variable {a b w:Wt}{e u:Nat}
theorem BK(h:XN w=true):W0 w:=by
 simp only[XN,dN] at h;obtain⟨h1,h2,h3,h4,h5,h6,h7,h8,h9⟩:=h;exact⟨BJ h1,xX h2,Ty.eq_iff.mp h3,λ v=>⟨qF h4 v,qF h5 v⟩,λ v=>⟨qF h6 v,qF h7 v⟩,qF h8,h9⟩
theorem BL{w:Nat}(h:XO u w e a b=true):W1 u w e a b:=by
 simp only[XO,dN] at h;exact⟨Ty.eq_iff.mp h.1,Tm.eq_iff.mp h.2⟩
theorem Ds(h:Rf a b=true):F1 a b:=by
 rintro⟨d,c,e⟩;unfold Rf at h;rw[e] at h;rw[e];exact Ty.eq_iff.mp h
theorem BM(h:XQ e a b=true):W2 e a b:=by
 simp only[XQ,dN] at h;obtain⟨h1,h2,h4,h5⟩:=h;exact⟨Ty.eq_iff.mp h1,Tm.eq_iff.mp h2,xY h4,xY h5⟩
def dq.atom(A:dq)(i:Nat):Mf:=if i<10 then A.part i else rq (A.entry (i - 10))
end
noncomputable def oo(u w e:Nat):dq:=⟨0,0,0,u,w,e,0⟩
theorem OU:((List.range 20).all λ i=>XN ((oo 0 0 0).atom i).w0)=true:=by decide +kernel
theorem Jm:((List.range 20).all λ i=>(dn ((oo 0 0 0).atom i).w0.tm).isNone)=true:=by decide +kernel
theorem OV:((List.range 20).all λ i=>(List.range 5).all λ u=>(List.range 5).all λ w=>(List.range 4).all λ e=>XO u w e ((oo u w e).atom i).w0 ((oo u w e).atom i).w1)=true:=by decide +kernel
theorem Jn:((List.range 20).all λ i=>(List.range 7).all λ u=>(List.range 7).all λ w=>(List.range 4).all λ e=>Rf ((oo u w e).atom i).w0 ((oo u w e).atom i).w1)=true:=by decide +kernel
theorem OX:((List.range 20).all λ i=>(List.range 4).all λ e=>XQ e ((oo 0 0 e).atom i).w0 ((oo 0 0 e).atom i).w2)=true:=by decide +kernel
theorem Rg:((List.range 9).all λ k=>(List.range 5).all λ u=>(List.range 5).all λ w=>(List.range 4).all λ e=>W6 ((oo u w e).entry k).w1)=true:=by decide +kernel
theorem Rh:((List.range 9).all λ k=>(List.range 4).all λ e=>W6 ((oo 0 0 e).entry k).w2)=true:=by decide +kernel
section
variable {a a' f f':Wt}{c d s:Ty}{e u w:Nat}
theorem qG(v:Vr):∀(t:Tm) (b o:List Vr),v∈bq t b o↔v∈o\/v∈bq t b []:=by
 intro t;induction t with
 |var x k t=>
  intro b o;simp only[LO];cases hb:bt ⟨x,k,t⟩ b with
  |true=>simp
  |false=>
   haveI e:bt ⟨x,k,t⟩ []=false:=rfl;cases ho:bt ⟨x,k,t⟩ o with
   |true=>
    haveI:=gA.mp ho;simp only[Bool.false_or,e,if_true,Bool.false_eq_true,if_false,List.nil_append,fW];exact⟨.inl,λ h=>h.elim id λ h=>h▸this⟩
   |false=>simp[e]
 |con x t=>intro b o;simp[Iq]
 |app f a iX gd=>intro b o;simp only[Ir];simp only[gd b (bq f b o),gd b (bq f b []),iX b o,or_assoc]
 |lam x k t a ih=>intro b o;simp only[LP];exact ih _ o
theorem iV(v:Vr):∀(t:Tm) (o:List Vr),v∈aH t o↔v∈o\/v∈aH t []:=by
 have add:∀(w:Vr) (o:List Vr),v∈(if bt w o then o else o++[w])↔v∈o\/v=w:=by
  intro w o;cases ho:bt w o with
  |true=>
   haveI:=gA.mp ho;exact⟨.inl,λ h=>h.elim id λ h=>h▸this⟩
  |false=>simp
 have nil:∀w:Vr,v∈(if bt w [] then([]:List Vr) else[]++[w])↔v=w:=λ w=>by rw[add w []];simp
 intro t;induction t with
 |var x k t=>intro o;simp only[L1];rw[add,nil]
 |con x t=>intro o;simp[IT]
 |app f a iX gd=>intro o;simp only[IU];simp only[gd (aH f o),gd (aH f []),iX o,or_assoc]
 |lam x k t a ih=>intro o;simp only[IV];refine(ih _).trans (Iff.trans ?_ (or_congr_right (ih _).symm));rw[add,nil,or_assoc]
theorem Jo{f a:Tm}(h:Jk f=true):Jk (.app f a)=true:=by
 induction f with
 |con c t=>exact h
 |_=>rfl
theorem Fe{f a:Tm}(h:Jk f=true):dn (.app f a)=none:=by
 match f,h with
 |.app (.con c t) b,h=>
  haveI h:(!c.same .eq)=true:=h;show(if c.same .eq=true then some (b,a) else none)=none;cases hc:c.same .eq with
  |true=>haveI h:=hc▸h;exact Bool.noConfusion h
  |false=>rfl
 |.var _ _ _,_=>rfl
 |.con _ _,_=>rfl
 |.lam _ _ _ _,_=>rfl
 |.app (.var _ _ _) _,_=>rfl
 |.app (.app _ _) _,_=>rfl
 |.app (.lam _ _ _ _) _,_=>rfl
theorem pE{f a:Tm}(hf:ags f=some (.fn d c))(ha:ags a=some d):ags (.app f a)=some c:=by
 simp only[EE,hf,ha,Option.bind_some];simp[Ty.eq_iff]
theorem BN{a b:Tm}(ha:ags a=some s)(hb:ags b=some s):ags (eqT s a b)=some .bool:=by
 refine pE (pE ?_ ha) hb;simp[ED,QM,Ty.eq_iff]
theorem Ri(hf:W0 f)(ha:W0 a)(h:f.ty=.fn a.ty c):W0 (cP f a) where
 n:=Rb hf.n ha.n
 ty:=by
  show ags (.app f.tm a.tm)=some (BD f.ty);rw[h];exact pE (h▸hf.ty) ha.ty
 tn:=by
  show BD (W5 [] f.nl)=BD f.ty;rw[hf.tn]
 fv v:=by
  show v∈bq a.tm [] (bq f.tm [] [])↔v∈f.fv++a.fv;rw[qG,bX];exact or_congr (hf.fv v) (ha.fv v)
 vs v:=by
  show v∈aH a.tm (aH f.tm [])↔v∈(f.fv++a.fv)++(f.bv++a.bv);rw[iV,hf.vs,ha.vs];simp only[bX];constructor<;>rintro((h|h)|(h|h))<;>simp[h]
 s0 v:=by
  show v∈(f.fv++a.fv)++(f.bv++a.bv)->_;haveI h1:=hf.s0 v;haveI h2:=ha.s0 v;simp only[bX] at h1 h2 ⊢;rintro((h|h)|(h|h))
  .exact h1 (.inl h)
  .exact h2 (.inl h)
  .exact h1 (.inr h)
  .exact h2 (.inr h)
 hd:=Jo hf.hd
theorem Rj{b:Wt}(ha:W0 a)(hb:W0 b)(h:a.ty=b.ty):W0 (bG a b) where
 n:=Rc ha.n hb.n
 ty:=BN ha.ty (h▸hb.ty)
 tn:=rfl
 fv v:=by
  show v∈bq b.tm [] (bq a.tm [] [])↔v∈a.fv++b.fv;rw[qG,bX];exact or_congr (ha.fv v) (hb.fv v)
 vs v:=by
  show v∈aH b.tm (aH a.tm [])↔v∈(a.fv++b.fv)++(a.bv++b.bv);rw[iV,ha.vs,hb.vs];simp only[bX];constructor<;>rintro((h|h)|(h|h))<;>simp[h]
 s0 v:=by
  show v∈(a.fv++b.fv)++(a.bv++b.bv)->_;have h1:=ha.s0 v;have h2:=hb.s0 v;simp only[bX] at h1 h2 ⊢;rintro((h|h)|(h|h))
  .exact h1 (.inl h)
  .exact h2 (.inl h)
  .exact h1 (.inr h)
  .exact h2 (.inr h)
 hd:=rfl
theorem Rk(hf:W1 u w e f f')(ha:W1 u w e a a'):W1 u w e (cP f a) (cP f' a') where
 ty:=by show BD f'.ty=BD f.ty;rw[hf.ty]
 pt:=by show Tm.app (put f.tm (ag6 u w e)) (put a.tm (ag6 u w e))=_;simp only[hf.pt,ha.pt];rfl
theorem Rl(hf:W1 u w e f f')(ha:W1 u w e a a'):W1 u w e (bG f a) (bG f' a') where
 ty:=rfl
 pt:=by show Tm.app (.app (.con .eq (.fn f.ty (.fn f.ty .bool))) (put f.tm (ag6 u w e))) (put a.tm (ag6 u w e))=_;rw[hf.pt,ha.pt,←hf.ty];rfl
theorem Rm(hf:W2 e f f')(ha:W2 e a a')(h:f.ty=.fn d c):W2 e (cP f a) (cP f' a') where
 ty:=by show BD f'.ty=eG _ (BD f.ty);rw[hf.ty,h];rfl
 pt:=by show Tm.app (aY _ f.tm) (aY _ a.tm)=_;simp only[hf.pt,ha.pt];rfl
 fv:=by show f'.fv++a'.fv=(f.fv++a.fv).map _;simp only[hf.fv,ha.fv,List.map_append]
 bv:=by show f'.bv++a'.bv=(f.bv++a.bv).map _;simp only[hf.bv,ha.bv,List.map_append]
theorem Rn(hf:W2 e f f')(ha:W2 e a a'):W2 e (bG f a) (bG f' a') where
 ty:=rfl
 pt:=by show Tm.app (.app (.con .eq (.fn (eG _ f.ty) (.fn (eG _ f.ty) .bool))) (aY _ f.tm)) (aY _ a.tm)=_;rw[hf.pt,ha.pt,←hf.ty];rfl
 fv:=by show f'.fv++a'.fv=(f.fv++a.fv).map _;simp only[hf.fv,ha.fv,List.map_append]
 bv:=by show f'.bv++a'.bv=(f.bv++a.bv).map _;simp only[hf.bv,ha.bv,List.map_append]
end
def lg(A:dq):Mf->Prop
 |.jV a b c=>W0 a/\dn a.tm=none/\F1 a b/\(A.u<5->A.w<5->W1 A.u A.w A.e a b)/\W2 A.e a c
 |.eq l r=>lg A l/\lg A r/\l.w0.ty=r.w0.ty
theorem lg.w0{A:dq}:∀{m:Mf},lg A m->W0 m.w0
 |.jV _ _ _,h=>h.1
 |.eq l r,h=>Rj (lg.w0 h.1) (lg.w0 h.2.1) h.2.2
theorem lg.w1{A:dq}(hu:A.u<5)(hw:A.w<5):∀{m:Mf},lg A m->W1 A.u A.w A.e m.w0 m.w1
 |.jV _ _ _,h=>h.2.2.2.1 hu hw
 |.eq l r,h=>Rl (lg.w1 hu hw h.1) (lg.w1 hu hw h.2.1)
theorem lg.w2{A:dq}:∀{m:Mf},lg A m->W2 A.e m.w0 m.w2
 |.jV _ _ _,h=>h.2.2.2.2
 |.eq l r,h=>Rn (lg.w2 h.1) (lg.w2 h.2.1)
theorem lg.f1{A:dq}:∀{m:Mf},lg A m->F1 m.w0 m.w1
 |.jV _ _ _,h=>h.2.2.1
 |.eq l r,h=>λ⟨_,_,e⟩=>by cases e
theorem lg.fn{A:dq}{m:Mf}(h:lg A m):Q3 m:=by
 rintro⟨d,c,e⟩;refine⟨?_,?_⟩
 .rw[h.f1 ⟨d,c,e⟩];exact⟨d,c,e⟩
 .rw[h.w2.ty,e];exact⟨_,_,rfl⟩
theorem lg.dn{A:dq}:∀{m:Mf},lg A m->dn m.w0.tm=(ag9 m).map λ p=>(p.1.w0.tm,p.2.w0.tm)
 |.jV _ _ _,h=>h.2.1
 |.eq l r,h=>rfl
theorem Ff{a b:Ty}:iN a b=true↔∃c,a=.fn b c:=by
 induction a with
 |fn d c=>simp only[iN,Ty.eq_iff,Ty.fn.injEq];exact⟨λ h=>⟨c,h,rfl⟩,λ⟨_,h,_⟩=>h⟩
 |_=>simp[iN]
theorem Dt{A:dq}{a b:Mf}(ha:lg A a)(hb:lg A b)(h:iN a.w0.ty b.w0.ty=true):lg A (oj a b):=by
 obtain⟨c,e⟩:=Ff.mp h;refine⟨Ri ha.w0 hb.w0 e,Fe ha.w0.hd,λ _=>?_,λ hu hw=>Rk (ha.w1 hu hw) (hb.w1 hu hw),Rm ha.w2 hb.w2 e⟩;show BD a.w1.ty=BD a.w0.ty;rw[ha.f1 ⟨_,_,e⟩]
structure Zw(c d:Nat)(w:Wt):Prop where
 fv:w.fv.length<=5 * c
 bv:w.bv.length<=5 * c
 sz:w.tm.sz<=5 * c
 vs:w.tm.vs<=8 * c
 dp:w.tm.dp<=d
 nl:w.nl.dp<=d
 ty:w.ty.dp<=d
 pk:w.tm.pk<=5
def ZM(c d:Nat):Mf->Prop
 |.jV a b e=>Zw c d a/\Zw c d b/\Zw c d e
 |.eq l r=>ZM c d l/\ZM c d r/\Zw c d (bG l.w0 r.w0)/\Zw c d (bG l.w1 r.w1)/\Zw c d (bG l.w2 r.w2)
section
variable {a a' b b' c c' d d' e i j k x y:Nat}
theorem ml(h:x<=k * c)(g:y<=k * c'):x+y<=k * (c+c'):=Nat.mul_add k c c'▸Nat.add_le_add h g
theorem mc(h:a+b<=k * c)(g:a'+b'<=k * c'):a+a'+(b+b')<=k * (c+c'):=by rw[Nat.add_add_add_comm];exact ml h g
theorem mo(h:x<=k * c)(g:c<=c'):x<=k * c':=ao h (mE k g)
theorem lo(h:x<=d)(q:Nat.ble i j=true):x+i<=d+j:=Nat.add_le_add h (dB q)
theorem lp(h:x<=d):x<=d+j:=ao h (cU d j)
theorem lq(h:x+i<=d)(q:Nat.ble j i=true):x+j<=d+e:=ao (eB (dB q) x) (lp h)
theorem l1(h:x+y<=k):x<=k:=ao (cU x y) h
theorem l2(h:x+y<=k):y<=k:=ao (Nat.le_add_left y x) h
theorem Sd(h:a<=d)(g:b<=d):max a b+1<=d+1:=cv (Nat.max_le.mpr ⟨h,g⟩)
theorem la{α:Type}{x y:List α}(h:x.length+y.length<=k):(x++y).length<=k:=cO▸h
theorem Zw.mono{w:Wt}(h:Zw c d w)(hc:c<=c')(hd:d<=d'):Zw c' d' w:=
 ⟨mo h.fv hc,mo h.bv hc,mo h.sz hc,mo h.vs hc,ao h.dp hd,ao h.nl hd,ao h.ty hd,h.pk⟩
end
theorem ZM.mono{c c' d d':Nat}(hc:c<=c')(hd:d<=d'):∀{m:Mf},ZM c d m->ZM c' d' m
 |.jV _ _ _,h=>⟨h.1.mono hc hd,h.2.1.mono hc hd,h.2.2.mono hc hd⟩
 |.eq l r,h=>⟨ZM.mono hc hd h.1,ZM.mono hc hd h.2.1,h.2.2.1.mono hc hd,h.2.2.2.1.mono hc hd,h.2.2.2.2.mono hc hd⟩
section
variable {a b c d t:Nat}
theorem ZM.w0:∀{m:Mf},ZM c d m->Zw c d m.w0
 |.jV _ _ _,h=>h.1
 |.eq _ _,h=>h.2.2.1
theorem ZM.w1:∀{m:Mf},ZM c d m->Zw c d m.w1
 |.jV _ _ _,h=>h.2.1
 |.eq _ _,h=>h.2.2.2.1
theorem ZM.w2:∀{m:Mf},ZM c d m->Zw c d m.w2
 |.jV _ _ _,h=>h.2.2
 |.eq _ _,h=>h.2.2.2.2
theorem Jp(t:Ty):(BD t).dp<=t.dp:=by
 induction t with
 |fn a b=>exact eR (jH a.dp b.dp)
 |_=>exact dJ _
theorem Ro(s:Ty)(a b:Tm):(eqT s a b).dp=max (max (s.dp+2) a.dp+1) b.dp+1:=by
 show max (max (max s.dp (max s.dp 0+1)+1) a.dp+1) b.dp+1=_;rw[Nat.max_zero,Nat.max_eq_right (Nat.le_succ _)]
theorem ahe:max a b+1<=d↔a+1<=d/\b+1<=d:=Nat.max_lt
theorem Rp:max t (max a b)+1<=d↔t+1<=d/\a+1<=d/\b+1<=d:=⟨λ h=>⟨(ahe.mp h).1,ahe.mp (ahe.mp h).2⟩,λ h=>ahe.mpr ⟨h.1,ahe.mpr h.2⟩⟩
theorem pk2:max (max 0 a) b<=d↔a<=d/\b<=d:=by rw[Nat.zero_max];exact Nat.max_le
theorem xZ{s:Ty}{a b:Tm}:(eqT s a b).dp<=d↔s.dp+4<=d/\a.dp+2<=d/\b.dp+1<=d:=by
 rw[Ro];refine⟨λ h=>⟨ao (cv (ao (cv (i6 _ _)) (i6 _ _))) h,ao (cv (ao (cv (jH _ _)) (i6 _ _))) h,(ahe.mp h).2⟩,λ h=>ahe.mpr ⟨?_,h.2.2⟩⟩;induction d with
 |zero=>exact absurd h.1 (Nat.not_succ_le_zero _)
 |succ e=>exact cv (ahe.mpr ⟨mD h.1,mD h.2.1⟩)
end
structure Ze(c d:Nat)(a b:Wt):Prop where
 fv:a.fv.length+b.fv.length<=5 * c
 bv:a.bv.length+b.bv.length<=5 * c
 sz:a.tm.sz+b.tm.sz<=5 * c
 vs:a.tm.vs+b.tm.vs<=8 * c
 ty:a.ty.dp+4<=d
 da:a.tm.dp+2<=d
 db:b.tm.dp+1<=d
 na:a.nl.dp+1<=d
 nb:b.nl.dp+1<=d
 pa:a.tm.pk<=5
 pb:b.tm.pk<=5
section
variable {c c' d:Nat}{a a' b b':Wt}{l l' m r r':Mf}
theorem Ze.zw(h:Ze c d a b):Zw c d (bG a b) where
 fv:=by show(a.fv++b.fv).length<=_;rw[cO];exact h.fv
 bv:=by show(a.bv++b.bv).length<=_;rw[cO];exact h.bv
 sz:=by show 0+a.tm.sz+b.tm.sz<=_;rw[Nat.zero_add];exact h.sz
 vs:=by show 0+a.tm.vs+b.tm.vs<=_;rw[Nat.zero_add];exact h.vs
 dp:=xZ.mpr ⟨h.ty,h.da,h.db⟩
 nl:=Rp.mpr ⟨ao (eB (dB rfl) _) h.ty,h.na,h.nb⟩
 ty:=dJ _
 pk:=pk2.mpr ⟨h.pa,h.pb⟩
theorem Zw.ze(h:Zw c d (bG a b)):Ze c d a b where
 fv:=by rw[←cO];exact h.fv
 bv:=by rw[←cO];exact h.bv
 sz:=by have:0+a.tm.sz+b.tm.sz<=_:=h.sz;rwa [Nat.zero_add] at this
 vs:=by have:0+a.tm.vs+b.tm.vs<=_:=h.vs;rwa [Nat.zero_add] at this
 ty:=(xZ.mp h.dp).1
 da:=(xZ.mp h.dp).2.1
 db:=(xZ.mp h.dp).2.2
 na:=(Rp.mp h.nl).2.1
 nb:=(Rp.mp h.nl).2.2
 pa:=(pk2.mp h.pk).1
 pb:=(pk2.mp h.pk).2
theorem BO(ha:Zw c d a)(hb:Zw c' d b):Zw (c+c') (d+4) (bG a b):=
 Ze.zw ⟨ml ha.fv hb.fv,ml ha.bv hb.bv,ml ha.sz hb.sz,ml ha.vs hb.vs,lo ha.ty rfl,lo ha.dp rfl,lo hb.dp rfl,lo ha.nl rfl,lo hb.nl rfl,ha.pk,hb.pk⟩
theorem Rq(ha:Zw c d a)(hb:Zw c' d b):Zw (c+c') (d+1) (cP a b):=
 ⟨la (ml ha.fv hb.fv),la (ml ha.bv hb.bv),ml ha.sz hb.sz,ml ha.vs hb.vs,Sd ha.dp hb.dp,Sd ha.nl hb.nl,ao (Jp a.ty) (lp ha.ty),Nat.max_le.mpr ⟨ha.pk,hb.pk⟩⟩
theorem BP(ha:Zw c d a):Zw (c+1) (d+2) (ph a):=
 ⟨la (ml (y:=1) ha.fv (by decide)),la (ml (y:=1) ha.bv (by decide)),ml (y:=1) ha.sz (by decide),ml (y:=2) ha.vs (by decide),Sd (Sd (dJ _) ha.dp) (dJ _),Sd (Sd (dJ _) ha.nl) (dJ _),lp ha.ty,Nat.max_le.mpr ⟨Nat.max_le.mpr ⟨dJ _,ha.pk⟩,dJ _⟩⟩
theorem uN(h:Zw c d (bG a b))(h':Zw c' d (bG a' b')):Zw (c+c') (d+4) (bG a b'):=
 Ze.zw ⟨ml (l1 h.ze.fv) (l2 h'.ze.fv),ml (l1 h.ze.bv) (l2 h'.ze.bv),ml (l1 h.ze.sz) (l2 h'.ze.sz),ml (l1 h.ze.vs) (l2 h'.ze.vs),lp h.ze.ty,lp h.ze.da,lp h'.ze.db,lp h.ze.na,lp h'.ze.nb,h.ze.pa,h'.ze.pb⟩
theorem yd(h:Zw c d (bG a b))(h':Zw c' d (bG a' b')):Zw (c+c') (d+5) (bG (cP a a') (cP b b')):=by
 refine Ze.zw ⟨?_,?_,mc h.ze.sz h'.ze.sz,mc h.ze.vs h'.ze.vs,ao (d7 (Jp a.ty) 4) (lp h.ze.ty),cv (cv (ahe.mpr ⟨lq h.ze.da rfl,lq h'.ze.da rfl⟩:_<=d+3)),cv (ahe.mpr ⟨lq h.ze.db rfl,lq h'.ze.db rfl⟩:_<=d+4),cv (ahe.mpr ⟨lq h.ze.na rfl,lq h'.ze.na rfl⟩:_<=d+4),cv (ahe.mpr ⟨lq h.ze.nb rfl,lq h'.ze.nb rfl⟩:_<=d+4),Nat.max_le.mpr ⟨h.ze.pa,h'.ze.pa⟩,Nat.max_le.mpr ⟨h.ze.pb,h'.ze.pb⟩⟩
 .show(a.fv++a'.fv).length+(b.fv++b'.fv).length<=_;rw[cO,cO];exact mc h.ze.fv h'.ze.fv
 .show(a.bv++a'.bv).length+(b.bv++b'.bv).length<=_;rw[cO,cO];exact mc h.ze.bv h'.ze.bv
theorem Ae(hl:ZM c d l)(hr:ZM c' d r):ZM (c+c') (d+4) (.eq l r):=
 ⟨hl.mono (cU _ _) (cU _ _),hr.mono (Nat.le_add_left _ _) (cU _ _),BO hl.w0 hr.w0,BO hl.w1 hr.w1,BO hl.w2 hr.w2⟩
theorem Jq(h:ZM c d (.eq l r))(h':ZM c' d (.eq l' r')):ZM (c+c') (d+4) (.eq l r'):=
 ⟨h.1.mono (cU _ _) (cU _ _),h'.2.1.mono (Nat.le_add_left _ _) (cU _ _),uN h.2.2.1 h'.2.2.1,uN h.2.2.2.1 h'.2.2.2.1,uN h.2.2.2.2 h'.2.2.2.2⟩
theorem nV(ha:Zw c d a)(hb:Zw c' d b):Zw (c+c') (d+5) (cP a b):=(Rq ha hb).mono (cy _) (eB (by decide) d)
theorem Mi(h:ZM c d (.eq l r))(h':ZM c' d (.eq l' r')):ZM (c+c') (d+5) (.eq (oj l l') (oj r r')):=
 ⟨⟨nV h.1.w0 h'.1.w0,nV h.1.w1 h'.1.w1,nV h.1.w2 h'.1.w2⟩,⟨nV h.2.1.w0 h'.2.1.w0,nV h.2.1.w1 h'.2.1.w1,nV h.2.1.w2 h'.2.1.w2⟩,yd h.2.2.1 h'.2.2.1,yd h.2.2.2.1 h'.2.2.2.1,yd h.2.2.2.2 h'.2.2.2.2⟩
theorem Rr(h:ZM c d m):ZM (c+1) (d+2) (rq m):=⟨BP h.w0,BP h.w1,BP h.w2⟩
theorem ZM.mn(h:ZM c d m)(hc:c<=60)(hd:d<=200):Mn m:=by
 have f {x:Nat} (q:x<=5 * c):x<=400:=ao (mo q hc) (by decide);have g {x:Nat} (q:x<=d):x<=900:=ao q (ao hd (by decide));exact⟨f h.w0.fv,f h.w0.bv,f h.w1.fv,f h.w1.bv,f h.w2.fv,f h.w2.bv,g h.w0.nl,g h.w0.ty⟩
end
noncomputable def W7(c d:Nat)(w:Wt):Bool:=Nat.ble w.fv.length (5 * c)&&(Nat.ble w.bv.length (5 * c)&&(Nat.ble w.tm.sz (5 * c)&&(Nat.ble w.tm.vs (8 * c)&&(Nat.ble w.tm.dp d&&(Nat.ble w.nl.dp d&&(Nat.ble w.ty.dp d&&Nat.ble w.tm.pk 5))))))
section
variable {c d k:Nat}{A B:dq}{l:List Nl}
theorem rD{w:Wt}(h:W7 c d w=true):Zw c d w:=by
 unfold W7 at h;simp only[dN,Nat.ble_eq] at h;obtain⟨h1,h2,h3,h4,h5,h6,h7,h8⟩:=h;exact⟨h1,h2,h3,h4,h5,h6,h7,h8⟩
theorem Du:((List.range 10).all λ i=>(List.range 7).all λ u=>(List.range 7).all λ w=>(List.range 4).all λ e=>W7 1 9 (iG (bb u) (bb w) (bb e) sq i))=true:=by decide +kernel
theorem Mj:((List.range 10).all λ i=>(List.range 4).all λ e=>W7 1 9 (iG pW xT xW (FF e) i))=true:=by decide +kernel
theorem Mk(hA:A.Ok){i:Nat}(hi:i<10):ZM 1 9 (A.part i):=
 ⟨rD (aJ (aJ (aJ (aJ Du hi) (by decide:0<7)) (by decide:2<7)) (by decide:1<4)),rD (aJ (aJ (aJ (aJ Du hi) hA.u) hA.w) hA.e),rD (aJ (aJ Mj hi) hA.e)⟩
theorem Ml(hA:A.Ok){i:Nat}(hi:i<10):lg A (A.part i):=by
 have e:∀B:dq,B.atom i=B.part i:=λ B=>if_pos hi;have Jr:i<20:=by exact FH hi rfl
 refine⟨?_,?_,?_,λ hu hw=>?_,?_⟩
 .have:=BK (aJ OU Jr);rw[e] at this;exact this
 .have:=aJ Jm Jr;rw[e] at this;exact Option.isNone_iff_eq_none.mp this
 .have:=Ds (aJ (aJ (aJ (aJ Jn Jr) hA.u) hA.w) hA.e);rw[e] at this;exact this
 .have:=BL (aJ (aJ (aJ (aJ OV Jr) hu) hw) hA.e);rw[e] at this;exact this
 .have:=BM (aJ (aJ OX Jr) hA.e);rw[e] at this;exact this
theorem Dw(k:Nat)(h1:A.u=B.u)(h2:A.w=B.w)(h3:A.e=B.e):A.entry k=B.entry k:=by
 have hp:A.part=B.part:=funext λ i=>by unfold dq.part;rw[h1,h2,h3]
 unfold dq.entry;rw[hp]
theorem Af(A B:dq)(k:Nat):(A.entry k).w0=(B.entry k).w0:=(ag0 Mf.w0).trans (ag0 Mf.w0 (l:=rA B.part) (d:=B.part 6)).symm
theorem Ag(k:Nat)(h:A.e=B.e):(A.entry k).w2=(B.entry k).w2:=by
 have a:=ag0 Mf.w2 (l:=rA A.part) (d:=A.part 6) (i:=k);have b:=ag0 Mf.w2 (l:=rA B.part) (d:=B.part 6) (i:=k);have c:(List.map Mf.w2 (rA A.part)).getD k (A.part 6).w2=(List.map Mf.w2 (rA B.part)).getD k (B.part 6).w2:=by
  have hp:(λ i=>(A.part i).w2)=λ i=>(B.part i).w2:=funext λ i=>by show iG _ _ _ (FF A.e) i=iG _ _ _ (FF B.e) i;rw[h]
  exact congrArg (λ p:Nat->Wt=>[p 0,p 1,bG (p 2) (p 0),bG (p 1) (p 2),p 3,bG (p 7) (p 9),bG (p 8) (p 9),p 4,p 5].getD k (p 6)) hp
 exact a.trans (c.trans b.symm)
theorem Rt(hA:A.Ok)(hk:k<10):lg A (rq (A.entry k)):=by
 have e:∀B:dq,B.atom (k+10)=rq (B.entry k):=λ B=>by unfold dq.atom;rw[if_neg (by exact Nat.not_lt.mpr (Nat.le_add_left 10 k)),Nat.add_sub_cancel]
 have Jr:k+10<20:=by exact Nat.add_lt_add_right hk 10
 have e1:=Dw (A:=oo A.u A.w A.e) (B:=A) k rfl rfl rfl;have e2:=Ag (A:=oo 0 0 A.e) (B:=A) k rfl;have q0:∀B:dq,(B.atom (k+10)).w0=ph (A.entry k).w0:=λ B=>(congrArg Mf.w0 (e B)).trans (congrArg ph (Af B A k));have q2:((oo 0 0 A.e).atom (k+10)).w2=ph (A.entry k).w2:=(congrArg Mf.w2 (e _)).trans (congrArg ph e2);refine⟨?_,?_,?_,λ hu hw=>?_,?_⟩
 .have:=BK (aJ OU Jr);rw[q0] at this;exact this
 .have:=aJ Jm Jr;rw[q0] at this;exact Option.isNone_iff_eq_none.mp this
 .have:=Ds (aJ (aJ (aJ (aJ Jn Jr) hA.u) hA.w) hA.e);rw[e,e1] at this;exact this
 .have:=BL (aJ (aJ (aJ (aJ OV Jr) hu) hw) hA.e);rw[e,e1] at this;exact this
 .have:=BM (aJ (aJ OX Jr) hA.e);rw[q0,q2] at this;exact this
theorem W8{α:Type}{P:α->Prop}{a b c d e f g h i:α}(ha:P a)(hb:P b)(hc:P c)(hd:P d)(he:P e)(hf:P f)(hg:P g)(hh:P h)(hi:P i):∀x∈[a,b,c,d,e,f,g,h,i],P x:=by
 intro x hx;simp only[e8,List.not_mem_nil,or_false] at hx;rcases hx with rfl|rfl|rfl|rfl|rfl|rfl|rfl|rfl|rfl<;>assumption
theorem qH(hA:A.Ok)(k:Nat):lg A (A.entry k):=by
 have p:∀i,i<10->lg A (A.part i):=λ _ hi=>Ml hA hi;have q:∀i j,i<10->j<10->(A.part i).w0.ty=(A.part j).w0.ty->lg A (.eq (A.part i) (A.part j)):=λ i j h1 h2 e=>⟨p i h1,p j h2,e⟩;exact kZ (W8 (p 0 (by decide)) (p 1 (by decide)) (q 2 0 (by decide) (by decide) rfl) (q 1 2 (by decide) (by decide) rfl) (p 3 (by decide)) (q 7 9 (by decide) (by decide) rfl) (q 8 9 (by decide) (by decide) rfl) (p 4 (by decide)) (p 5 (by decide))) (p 6 (by decide)) k
theorem gE(hA:A.Ok)(k:Nat):ZM 2 13 (A.entry k):=by
 have p:∀i,i<10->ZM 1 9 (A.part i):=λ _ hi=>Mk hA hi;have q:∀i,i<10->ZM 2 13 (A.part i):=λ i hi=>(p i hi).mono (by decide) (by decide);have r:∀i j,i<10->j<10->ZM 2 13 (.eq (A.part i) (A.part j)):=λ i j h1 h2=>Ae (p i h1) (p j h2);exact kZ (W8 (q 0 (by decide)) (q 1 (by decide)) (r 2 0 (by decide) (by decide)) (r 1 2 (by decide) (by decide)) (q 3 (by decide)) (r 7 9 (by decide) (by decide)) (r 8 9 (by decide) (by decide)) (q 4 (by decide)) (q 5 (by decide))) (q 6 (by decide)) k
def g8:Nat->Wt
 |4=>kW
 |5=>nW
 |i=>bz i
theorem Mm:((List.range 6).all λ i=>XN (g8 i)&&((dn (g8 i).tm).isNone&&W7 1 9 (g8 i)))=true:=by decide +kernel
theorem Mp:((List.range 6).all λ i=>(List.range 5).all λ u=>(List.range 5).all λ w=>(List.range 4).all λ e=>XO u w e (g8 i) (g8 i))=true:=by decide +kernel
theorem Mq:((List.range 6).all λ i=>(List.range 4).all λ e=>XQ e (g8 i) (g8 i))=true:=by decide +kernel
theorem rE(hA:A.Ok){i:Nat}(hi:i<6):lg A (jY (g8 i))/\ZM 1 9 (jY (g8 i)):=by
 have h:=aJ Mm hi;simp only[dN] at h;obtain⟨h1,h2,h3⟩:=h;refine⟨⟨BK h1,Option.isNone_iff_eq_none.mp h2,λ _=>rfl,λ hu hw=>BL (aJ (aJ (aJ (aJ Mp hi) hu) hw) hA.e),BM (aJ (aJ Mq hi) hA.e)⟩,rD h3,rD h3,rD h3⟩
theorem aaJ(hA:A.Ok):lg A kM/\ZM 1 9 kM:=rE hA (by decide:4<6)
theorem aaK(hA:A.Ok):lg A nM/\ZM 1 9 nM:=rE hA (by decide:5<6)
theorem Ah{i:Nat}(h:i<4):g8 i=bz i:=by
 revert h;revert i;exact @AF _ _ (aB rfl (aB rfl (aB rfl (aB rfl iH))))
theorem qI(hA:A.Ok){i:Nat}(hi:i<4):lg A (jY (bz i))/\ZM 1 9 (jY (bz i)):=by
 rw[←Ah hi];exact rE hA (by exact FH hi rfl)
theorem Nl.Ai(a b:Nl):a.eq b=b.eq a:=by rw[Bool.eq_iff_iff,Nl.eq_iff,Nl.eq_iff];exact eq_comm
theorem Aj{a:Nl}:lS a l=true↔a∈l:=by
 unfold lS;rw[List.any_eq_true];exact⟨λ⟨b,hb,h⟩=>Nl.eq_iff.mp h▸hb,λ h=>⟨a,h,Nl.eq_iff.mpr rfl⟩⟩
end
theorem Ak{i:Nat}{p:Wt}(hp:WN p):∀l:List Mf,(∀m∈l,WN (m.w i))->agV p.tm (l.map λ m=>(m.w i).tm)=lS p.nl (l.map λ m=>(m.w i).nl)
 |[],_=>rfl
 |m::l,h=>by
  haveI:=Ak (i:=i) hp l λ q hq=>h q (d8 _ hq);unfold agV lS at this ⊢;simp only[List.map_cons,List.any_cons,List.map_cons,List.any_cons,this,qE hp (h m dC),Nl.Ai]
theorem wH{i:Nat}{m:Mf}:∀(b a:List Mf),m∈agM i a b->m∈a\/m∈b:=by
 intro b;induction b with
 |nil=>intro a h;exact .inl h
 |cons q b ih=>
  intro a h;rcases ih _ h with h|h
  .dsimp only at h;split at h
   .exact .inl h
   .rcases bX.mp h with h|h
    .exact .inl h
    .rw[fW.mp h];exact .inr dC
  .exact .inr (d8 _ h)
theorem ye(i:Nat):∀(b a:List Mf),(∀m∈a,WN (m.w i))->(∀m∈b,WN (m.w i))->eU (a.map λ m=>(m.w i).tm) (b.map λ m=>(m.w i).tm)=(agM i a b).map λ m=>(m.w i).tm:=by
 intro b;induction b with
 |nil=>intro a _ _;rfl
 |cons q b ih=>
  intro a ha hb;haveI hq:=hb q dC;haveI Wu:∀m∈b,WN (m.w i):=λ m hm=>hb m (d8 _ hm);show eU (if agV (q.w i).tm (a.map λ m=>(m.w i).tm) then _ else _) _=(agM i (if lS (q.w i).nl (a.map λ o=>(o.w i).nl) then a else a++[q]) b).map _;rw[Ak hq a ha];cases lS (q.w i).nl (a.map λ o=>(o.w i).nl) with
  |true=>exact ih a ha Wu
  |false=>
   haveI:=ih (a++[q]) (λ m hm=>by
    rcases bX.mp hm with h|h
    .exact ha m h
    .rw[fW.mp h];exact hq) Wu
   rw[List.map_append] at this;exact this
theorem pG{p:Wt}(hp:WN p):∀l:List Mf,(∀m∈l,WN m.w0)->bZ (l.map λ m=>m.w0.tm) p.tm=(l.filter λ m=>!m.w0.nl.eq p.nl).map λ m=>m.w0.tm
 |[],_=>rfl
 |m::l,h=>by
  haveI:=pG hp l λ q hq=>h q (d8 _ hq);unfold bZ at this ⊢;rw[List.map_cons,List.filter_cons,List.filter_cons,this,qE hp (h m dC),Nl.Ai];cases m.w0.nl.eq p.nl<;>rfl
abbrev XS(l:List Mf):Prop:=l.Pairwise λ a b=>a.w0.nl≠b.w0.nl
theorem wI:∀(b a:List Mf),XS a->XS (agM 0 a b):=by
 intro b;induction b with
 |nil=>intro a h;exact h
 |cons q b ih=>
  intro a h;refine ih (if lS (q.w 0).nl (a.map λ o=>(o.w 0).nl)=true then a else a++[q]) ?_;cases hm:lS (q.w 0).nl (a.map λ o=>(o.w 0).nl) with
  |true=>exact h
  |false=>
   refine List.pairwise_append.mpr ⟨h,List.pairwise_singleton _ _,λ x hx y hy e=>?_⟩;rw[fW.mp hy] at e;have:lS (q.w 0).nl (a.map λ o=>(o.w 0).nl)=true:=Aj.mpr (gm.mpr ⟨x,hx,e⟩);rw[hm] at this;cases this
theorem BQ:∀(b a:List Mf),XS (a++b)->agM 0 a b=a++b:=by
 intro b;induction b with
 |nil=>intro a _;rw[List.append_nil];rfl
 |cons q b ih=>
  intro a h;haveI hm:lS (q.w 0).nl (a.map λ o=>(o.w 0).nl)=false:=by
   rw[Bool.eq_false_iff];intro hm;obtain⟨x,hx,e⟩:=gm.mp (Aj.mp hm);exact(List.pairwise_append.mp h).2.2 x hx q dC e
  show agM 0 (if lS (q.w 0).nl (a.map λ o=>(o.w 0).nl)=true then a else a++[q]) b=_;rw[hm];haveI:=ih (a++[q]) (by rw[List.append_assoc];exact h);rw[List.append_assoc] at this;exact this
noncomputable def c9(t:Tt):Th:=⟨t.hs.map λ m=>m.w0.tm,t.c.w0.tm⟩
structure gU(A:dq)(L:Nat)(t:Tt):Prop where
 c:lg A t.c
 z:ZM (3 * 2 ^ L) (14+5 * L) t.c
 b:t.c.w0.ty=.bool
 hs:∀m∈t.hs,∃k,k<9/\m=A.entry k
 ds:XS t.hs
 ln:t.hs.length<=2 ^ L
section
variable {A:dq}{L L':Nat}{a b l:List Mf}
theorem gU.mono{t:Tt}(h:gU A L t)(hl:L<=L'):gU A L' t:=by
 haveI:2 ^ L<=2 ^ L':=Nat.pow_le_pow_right (by decide) hl;exact⟨h.c,h.z.mono (by exact Ta this) (by exact S9 hl),h.b,h.hs,h.ds,ao h.ln this⟩
theorem lU(hA:A.Ok)(h:∀m∈l,∃k,k<9/\m=A.entry k){m:Mf}(hm:m∈l):lg A m:=by
 obtain⟨k,_,e⟩:=h m hm;rw[e];exact qH hA k
theorem Mr(L:Nat):2 ^ (L+1)=2 ^ L+2 ^ L:=by rw[Nat.pow_succ];exact Nat.mul_two _
theorem Dx(hA:A.Ok)(ha:∀m∈a,∃k,k<9/\m=A.entry k)(hb:∀m∈b,∃k,k<9/\m=A.entry k):eU (a.map λ m=>m.w0.tm) (b.map λ m=>m.w0.tm)=(agM 0 a b).map (λ m=>m.w0.tm)/\∀m∈agM 0 a b,∃k,k<9/\m=A.entry k:=
 ⟨ye 0 b a (λ m hm=>(lU hA ha hm).w0.n) λ m hm=>(lU hA hb hm).w0.n,λ m hm=>(wH b a hm).elim (ha m) (hb m)⟩
theorem OY{a b:Mf}(ha:lg A a)(hb:lg A b)(h:a.w0.nl.eq b.w0.nl=true):a.w0.ty=b.w0.ty:=by
 simp only[←ha.w0.tn,←hb.w0.tn,Nl.eq_iff.mp h]
theorem Ms(hA:A.Ok)(k:K2){a b:Tt}(ha:gU A L a)(hb:gU A L b):match oI k a b with
  |none=>eH k (c9 a) (c9 b)=none
  |some t=>eH k (c9 a) (c9 b)=some (c9 t)/\gU A (L+1) t:=by
 haveI hp:=Mr L;haveI jb:=Dx hA ha.hs hb.hs;haveI jl:=nS 0 b.hs a.hs;haveI la:=ha.ln;have lb:=hb.ln;haveI jd:=wI b.hs a.hs ha.ds;obtain⟨hs,c⟩:=a;obtain⟨lC,c'⟩:=b;dsimp only at jb jl jd la lb;cases k with
 |antisym=>
  have oc:=ha.c;have vw:=hb.c;haveI bc:=ha.b;have W9:=hb.b;dsimp only at oc vw bc W9;haveI fa:∀m∈hs.filter λ m=>!m.w0.nl.eq c'.w0.nl,∃k,k<9/\m=A.entry k:=λ m hm=>ha.hs m (List.mem_filter.mp hm).1;haveI fb:∀m∈lC.filter λ m=>!m.w0.nl.eq c.w0.nl,∃k,k<9/\m=A.entry k:=λ m hm=>hb.hs m (List.mem_filter.mp hm).1;haveI j:=Dx hA fa fb;haveI l1:=lY (λ m:Mf=>!m.w0.nl.eq c'.w0.nl) hs;haveI l2:=lY (λ m:Mf=>!m.w0.nl.eq c.w0.nl) lC;haveI l3:=nS 0 (lC.filter λ m=>!m.w0.nl.eq c.w0.nl) (hs.filter λ m=>!m.w0.nl.eq c'.w0.nl);refine⟨?_,⟨oc,vw,bc.trans W9.symm⟩,(Ae ha.z hb.z).mono (by exact B4) (by exact F0 rfl),rfl,j.2,wI _ _ (List.Pairwise.filter _ ha.ds),ao l3 (by exact Td la lb)⟩;show(ags c.w0.tm).map _=_;rw[oc.w0.ty];show some (Th.mk (eU (bZ (hs.map λ m=>m.w0.tm) c'.w0.tm) (bZ (lC.map λ m=>m.w0.tm) c.w0.tm)) _)=_;simp only[pG vw.w0.n hs λ m hm=>(lU hA ha.hs hm).w0.n,pG oc.w0.n lC λ m hm=>(lU hA hb.hs hm).w0.n,j.1];rfl
 |eqmp=>
  have oc:=ha.c;have vw:=hb.c;have W9:=hb.b;have z:=ha.z;dsimp only at oc vw W9 z;have FE:=oc.dn;cases c with
  |jV x y w=>
   show eH .eqmp (c9 ⟨hs,.jV x y w⟩) (c9 ⟨lC,c'⟩)=none;simp only[eH,c9];rw[FE];rfl
  |eq l r=>
   have q:=qE oc.1.w0.n vw.w0.n;dsimp only[oI,ag9,Option.bind];have e:eH .eqmp (c9 ⟨hs,.eq l r⟩) (c9 ⟨lC,c'⟩)=if l.w0.nl.eq c'.w0.nl then some ⟨eU (hs.map λ m=>m.w0.tm) (lC.map λ m=>m.w0.tm),r.w0.tm⟩ else none:=by
    simp only[eH,c9];rw[FE];show(if alike l.w0.tm c'.w0.tm=true then some (Th.mk _ _) else none)=_;rw[q]
   cases hq:l.w0.nl.eq c'.w0.nl with
   |false=>rw[hq] at e;exact e
   |true=>
    rw[hq] at e;refine⟨?_,oc.2.1,z.2.1.mono (by exact Tc) (by exact Nc),?_,jb.2,jd,ao jl (by exact B5 la lb)⟩
    .rw[e,if_pos rfl,jb.1];rfl
    .show r.w0.ty=.bool;simp only[←oc.2.2,OY oc.1 vw hq,W9]
 |trans=>
  have oc:=ha.c;have vw:=hb.c;have z:=ha.z;have z':=hb.z;dsimp only at oc vw z z';have FE:=oc.dn;have Js:=vw.dn;cases c with
  |jV x y w=>
   show eH .trans (c9 ⟨hs,.jV x y w⟩) (c9 ⟨lC,c'⟩)=none;simp only[eH,c9];rw[FE];rfl
  |eq l r=>
   cases c' with
   |jV x y w=>
    show eH .trans (c9 ⟨hs,.eq l r⟩) (c9 ⟨lC,.jV x y w⟩)=none;simp only[eH,c9];rw[FE,Js];rfl
   |eq l' r'=>
    have q:=qE oc.2.1.w0.n vw.1.w0.n;dsimp only[oI,ag9,Option.bind];have e:eH .trans (c9 ⟨hs,.eq l r⟩) (c9 ⟨lC,.eq l' r'⟩)=if r.w0.nl.eq l'.w0.nl then(ags l.w0.tm).map (λ s=>⟨eU (hs.map λ m=>m.w0.tm) (lC.map λ m=>m.w0.tm),eqT s l.w0.tm r'.w0.tm⟩) else none:=by
     simp only[eH,c9];rw[FE,Js];show(if alike r.w0.tm l'.w0.tm=true then Option.map _ _ else none)=_;rw[q]
    cases hq:r.w0.nl.eq l'.w0.nl with
    |false=>rw[hq] at e;exact e
    |true=>
     rw[hq] at e;refine⟨?_,⟨oc.1,vw.2.1,?_⟩,(Jq z z').mono (by exact B4) (by exact F0 rfl),rfl,jb.2,jd,ao jl (by exact B5 la lb)⟩
     .rw[e,if_pos rfl,oc.1.w0.ty,jb.1];rfl
     .simp only[oc.2.2,OY oc.2.1 vw.1 hq,vw.2.2]
 |comb=>
  have oc:=ha.c;have vw:=hb.c;have z:=ha.z;have z':=hb.z;dsimp only at oc vw z z';have FE:=oc.dn;have Js:=vw.dn;cases c with
  |jV x y w=>
   show eH .comb (c9 ⟨hs,.jV x y w⟩) (c9 ⟨lC,c'⟩)=none;simp only[eH,c9];rw[FE];rfl
  |eq l r=>
   cases c' with
   |jV x y w=>
    show eH .comb (c9 ⟨hs,.eq l r⟩) (c9 ⟨lC,.jV x y w⟩)=none;simp only[eH,c9];rw[FE,Js];rfl
   |eq l' r'=>
    dsimp only[oI,ag9,Option.bind];have e:eH .comb (c9 ⟨hs,.eq l r⟩) (c9 ⟨lC,.eq l' r'⟩)=(ags (.app l.w0.tm l'.w0.tm)).map (λ s=>⟨eU (hs.map λ m=>m.w0.tm) (lC.map λ m=>m.w0.tm),eqT s (.app l.w0.tm l'.w0.tm) (.app r.w0.tm r'.w0.tm)⟩):=by
     simp only[eH,c9];rw[FE,Js];dsimp only[ag9,Option.map_some,Option.bind_some]
    cases hq:iN l.w0.ty l'.w0.ty with
    |false=>
     have:ags (.app l.w0.tm l'.w0.tm)=none:=by
      simp only[EE,oc.1.w0.ty,vw.1.w0.ty,Option.bind_some];cases hl:l.w0.ty with
      |fn d c=>rw[hl] at hq;simp only[iN] at hq;simp[hq]
      |_=>rfl
     rw[this] at e;exact e
    |true=>
     have R0:iN r.w0.ty r'.w0.ty=true:=by simp only[←oc.2.2,←vw.2.2];exact hq
     haveI o1:=Dt oc.1 vw.1 hq;haveI o2:=Dt oc.2.1 vw.2.1 R0;haveI ht:=o1.w0.ty;haveI ht:ags (.app l.w0.tm l'.w0.tm)=some (BD l.w0.ty):=ht;refine⟨?_,⟨o1,o2,?_⟩,(Mi z z').mono (by exact B4) (by exact F0 rfl),rfl,jb.2,jd,ao jl (by exact B5 la lb)⟩
     .rw[e,ht,jb.1];rfl
     .show BD l.w0.ty=BD r.w0.ty;rw[oc.2.2]
structure pH(cs:iu):Prop where
 k:fO .K cs=some two
 m:fO .M cs=none
 n:fO .N cs=none\/fO .N cs=some two
end
structure gV(A:dq)(L:Nat)(cs:iu)(ai:List mi)(model:List Tt):Prop where
 run:ez bS ([],[]) ai=some (model.map c9,cs)
 cs:pH cs
 good:ahk ([],[]) ai
 ok:∀t∈model,gU A L t
 ls:ai.length<=100
 lm:model.length<=100
theorem lV{α β:Type}(sp:α->β->Option α):∀(l:List β) (a:α) (x:β),ez sp a (l++[x])=(ez sp a l).bind λ t=>sp t x
 |[],a,x=>by show(sp a x).bind (λ b=>ez sp b [])=sp a x;cases sp a x<;>rfl
 |y::l,a,x=>by
  show(sp a y).bind (λ t=>ez sp t (l++[x]))=((sp a y).bind λ t=>ez sp t l).bind _;cases sp a y with
  |none=>rfl
  |some t=>exact lV sp l t x
theorem nX:∀(l:List mi) (s:List Th×iu) (x:mi),ahk s l->sg x->(∀u,ez bS s l=some u->∀t,bS u x=some t->∀th∈t.1,oh th)->ahk s (l++[x])
 |[],s,x,_,hx,h=>⟨hx,λ t ht=>⟨h s rfl t ht,trivial⟩⟩
 |y::l,s,x,hg,hx,h=>⟨hg.1,λ t ht=>⟨(hg.2 t ht).1,nX l t x (hg.2 t ht).2 hx λ u hu=>h u (by show(bS s y).bind _=_;rw[ht];exact hu)⟩⟩
section
variable {L L' c d:Nat}{A:dq}{t:Tt}{cs Al:iu}{ai:List mi}{model:List Tt}{x:mi}
theorem Zw.mo{w:Wt}(h:Zw c d w)(hc:c<=60)(hd:d<=60):Mo w.tm:=by
 obtain⟨h1,h2,h3,h4,h5,h6,h7,h8⟩:=h;exact⟨by exact s8 h5 hd,by exact F4 h3 hc rfl,by exact F4 h4 hc rfl,by exact aj h8 rfl⟩
theorem lh(hA:A.Ok)(k:Nat):Mo (A.entry k).w0.tm/\Mo (A.entry k).w1.tm/\Mo (A.entry k).w2.tm:=
 ⟨(gE hA k).w0.mo (by decide) (by decide),(gE hA k).w1.mo (by decide) (by decide),(gE hA k).w2.mo (by decide) (by decide)⟩
theorem uO(h:L<=4):2 ^ L<=16:=Nat.pow_le_pow_right (n:=2) (by decide) h
theorem gU.Mt(hA:A.Ok)(hL:L<=4)(h:gU A L t):oh (c9 t):=by
 have:=uO hL
 refine⟨λ q hq=>?_,h.z.w0.mo (by exact pO this rfl) (by exact rP hL rfl),?_⟩
 .obtain⟨m,hm,e⟩:=gm.mp hq;obtain⟨k,_,e'⟩:=h.hs m hm;rw[←e,e'];exact(lh hA k).1
 .have:=h.ln
  show(t.hs.map _).length<=_;rw[bR];with_reducible exact rQ this ‹_› rfl
theorem Am(hA:A.Ok)(hI:gV A L cs ai model)(hx:sg x)(h:gN (model.map c9) cs x=some (c9 t,Al))(ht:gU A L' t)(hL:L<=L')(XU:L'<=4)(hc:pH Al)(J3:ai.length<=90)(J9:model.length<=90):gV A L' Al (ai++[x]) (model++[t]):=by
 have hr:bS (model.map c9,cs) x=some ((model++[t]).map c9,Al):=by
  unfold bS;dsimp only;rw[h,List.map_append];rfl
 refine⟨?_,hc,?_,?_,by rw[cO,List.length_singleton];exact d9 J3 rfl,by rw[cO,List.length_singleton];exact d9 J9 rfl⟩
 .rw[lV,hI.run];exact hr
 .refine nX ai _ x hI.good hx λ u hu v hv th xN=>?_;rw[hI.run] at hu;cases hu;rw[hr] at hv;cases hv;obtain⟨q,hq,e⟩:=gm.mp xN;rw[←e];rcases bX.mp hq with hq|hq
  .exact(hI.ok q hq).Mt hA (by exact s8 hL XU)
  .rw[fW.mp hq];exact ht.Mt hA XU
 .intro q hq;rcases bX.mp hq with hq|hq
  .exact(hI.ok q hq).mono hL
  .rw[fW.mp hq];exact ht
theorem Ao(hI:gV A L cs ai model)(hx:sg x)(h:gN (model.map c9) cs x=none):ahk ([],[]) (ai++[x])/\ez bS ([],[]) (ai++[x])=none:=by
 have hr:bS (model.map c9,cs) x=none:=by
  unfold bS;dsimp only;rw[h];rfl
 refine⟨nX ai _ x hI.good hx λ u hu v hv=>?_,?_⟩
 .rw[hI.run] at hu;cases hu;rw[hr] at hv;cases hv
 .rw[lV,hI.run];exact hr
end
def rF:Tm->Bool
 |.var _ _ _=>true
 |.con c t=>c.same .eq || (c.same .K&&t.eq two)
 |.app f a=>rF f&&rF a
 |.lam _ _ _ b=>rF b
theorem Jt:rF (.var u1 u2 u3)=(true):=rfl
theorem Ju:rF (.con c t)=(c.same .eq || (c.same .K&&t.eq two)):=rfl
theorem Jv:rF (.app f a)=(rF f&&rF a):=rfl
theorem Jw:rF (.lam u1 u2 u3 b)=(rF b):=rfl
theorem qJ{cs:iu}(h:fO .K cs=some two):∀{t:Tm},rF t=true->en cs t=true
 |.var _ _ _,_=>rfl
 |.con c t,hk=>by
  simp only[Jt,Ju,Jv,Jw,Bool.or_eq_true,dN] at hk
  ((first|rewrite[xF]|rewrite[vu]|rewrite[xG]|rewrite[xH]);rw[Bool.or_eq_true])
  rcases hk with hk|⟨hk,ht⟩
  .exact .inl hk
  .right;have e:c=.K:=Cn.same_iff.mp hk;rw[e,h,Ty.eq_iff.mp ht];exact Ty.eq_iff.mpr rfl
 |.app f a,hk=>by
  simp only[Jt,Ju,Jv,Jw,dN] at hk;simp only[xF,vu,xG,xH,qJ h hk.1,qJ h hk.2,Bool.and_self]
 |.lam _ _ _ b,hk=>by
  simp only[Jt,Ju,Jv,Jw] at hk;simp only[xF,vu,xG,xH,qJ h hk]
theorem Ru:((List.range 10).all λ k=>rF ((oo 0 0 0).entry k).w0.tm)=true:=by decide +kernel
section
variable {A:dq}{cs:iu}{i k:Nat}{l:List Tm}
theorem Jx(h:pH cs)(hk:k<10):en cs (A.entry k).w0.tm=true:=by
 have:=aJ Ru hk
 rw[Af _ A] at this;exact qJ h.k this
theorem vx(hA:A.Ok)(h:pH cs)(hk:k<10):agr cs (A.entry k).w0.tm=some (A.entry k).w0.ty:=by
 unfold agr;rw[Jx h hk,if_pos rfl];exact(qH hA k).w0.ty
theorem Ap(h:pH cs)(b:Nat):agr cs (om b)=none:=by
 have ct:∀{t:Tm},ags t=none->agr cs t=none:=λ e=>by unfold agr;rw[e,ite_self]
 have cc:∀{t:Tm},en cs t=false->agr cs t=none:=λ e=>by unfold agr;rw[e];rfl
 have cm:en cs (.con .M .bool)=false:=by((first|rewrite[xF]|rewrite[vu]|rewrite[xG]|rewrite[xH]);rw[h.m]);rfl
 exact kZ (P:=λ t=>agr cs t=none) (Sa (by exact ct rfl) (Sa (by exact ct rfl) (Sa (by exact ct rfl) (Sa (by exact ct rfl) (Sa (by refine cc ?_;((first|rewrite[xF]|rewrite[vu]|rewrite[xG]|rewrite[xH]);rw[h.k]);rfl) (Sa (by exact cc cm) (List.forall_mem_nil _))))))) (by refine cc ?_;((first|rewrite[xF]|rewrite[vu]|rewrite[xG]|rewrite[xH]);rw[cm,Bool.and_false])) b
noncomputable def Sk.OZ:Sk->Tm->mi
 |.refl,t=>.refl t
 |.assume,t=>.assume t
 |.beta,t=>.beta ⟨.y,0,.bool⟩ t
theorem Jy(h:pH cs)(made:List Th)(q:Sk)(b:Nat):gN made cs (q.OZ (om b))=none:=by
 have hb:=Ap h b;induction q with
 |refl=>show dx cs ((agr cs (om b)).bind _)=none;rw[hb];rfl
 |assume=>show dx cs ((agr cs (om b)).bind _)=none;rw[hb];rfl
 |beta=>show dx cs ((agr cs (om b)).bind _)=none;rw[hb];rfl
theorem Mu(hA:A.Ok)(h:pH cs)(made:List Th)(q:Sk)(hk:k<10):match si q (A.entry k) with
  |none=>gN made cs (q.OZ (A.entry k).w0.tm)=none
  |some t=>gN made cs (q.OZ (A.entry k).w0.tm)=some (c9 t,cs)/\gU A 1 t:=by
 have hc:=vx hA h hk;have oe:=qH hA k;have ze:=gE hA k;induction q with
 |refl=>
  refine⟨?_,⟨oe,oe,rfl⟩,(Ae ze ze).mono (by decide) (by decide),rfl,λ m hm=>absurd hm List.not_mem_nil,List.Pairwise.nil,dJ _⟩;show dx cs ((agr cs (A.entry k).w0.tm).bind _)=_;rw[hc];show dx cs ((ags (A.entry k).w0.tm).map _)=_;rw[oe.w0.ty];rfl
 |beta=>
  have or:=Rt hA hk;refine⟨?_,⟨or,oe,rfl⟩,(Ae (Rr ze) (ze.mono (cy 2) (by decide:13<=13+2))).mono (by decide) (by decide),rfl,λ m hm=>absurd hm List.not_mem_nil,List.Pairwise.nil,dJ _⟩;have ht:ags (.app (.lam .y 0 .bool (A.entry k).w0.tm) (.var .y 0 .bool))=some (A.entry k).w0.ty:=or.w0.ty;show dx cs ((agr cs (A.entry k).w0.tm).bind _)=_;rw[hc];show dx cs ((ags (.app (.lam .y 0 .bool (A.entry k).w0.tm) (.var .y 0 .bool))).map _)=_;rw[ht];rfl
 |assume=>
  have e:gN made cs (.assume (A.entry k).w0.tm)=dx cs (if(A.entry k).w0.ty.eq .bool then some ⟨[(A.entry k).w0.tm],(A.entry k).w0.tm⟩ else none):=by
   show dx cs ((agr cs (A.entry k).w0.tm).bind _)=_;rw[hc];rfl
  unfold si;dsimp only;cases hq:(A.entry k).w0.ty.eq .bool with
  |false=>rw[hq] at e;exact e
  |true=>
   rw[hq] at e;have hk9:k<9:=by
    have:k≠9:=by
     rintro rfl;have:((Ty.fn sq .bool).eq .bool)=true:=hq
     cases this
    exact B3 hk this
   refine⟨e,oe,ze.mono (by decide) (by decide),Ty.eq_iff.mp hq,λ m hm=>⟨k,hk9,fW.mp hm⟩,List.pairwise_singleton _ _,(by decide:1<=2 ^ 1)⟩
def Fg:iu:=[(.K,two)]
def XW:iu:=[(.K,two),(.N,two)]
theorem Jz:pH Fg:=⟨rfl,rfl,.inl rfl⟩
theorem Rv:pH XW:=⟨rfl,rfl,.inr rfl⟩
theorem Dz(h:i<4):(bz i).ty=two:=by
 revert h;revert i;exact @AF _ _ (aB rfl (aB rfl (aB rfl (aB rfl iH))))
theorem Rw(h:i<4):gN [] [] (.define .K (bz i).tm)=some (c9 ⟨[],.eq kM (jY (bz i))⟩,Fg):=by
 revert h;revert i;exact @AF _ _ (aB rfl (aB rfl (aB rfl (aB rfl iH))))
theorem Rx(made:List Th)(h:i<4):gN made Fg (.refl (bz i).tm)=some (c9 ⟨[],.eq (jY (bz i)) (jY (bz i))⟩,Fg):=by
 revert h;revert i;exact @AF _ _ (aB rfl (aB rfl (aB rfl (aB rfl iH))))
theorem yf(hA:A.Ok)(h:i<4):Mo (bz i).tm:=(qI hA h).2.w0.mo (by decide) (by decide)
theorem BR{l r:Mf}(hl:lg A l/\ZM 1 9 l)(hr:lg A r/\ZM 1 9 r)(h:l.w0.ty=r.w0.ty):gU A 0 ⟨[],.eq l r⟩:=
 ⟨⟨hl.1,hr.1,h⟩,(Ae hl.2 hr.2).mono (by decide) (by decide),rfl,λ m hm=>absurd hm List.not_mem_nil,List.Pairwise.nil,dJ _⟩
theorem aaL(hA:A.Ok):gV A 0 Fg A.pD A.rB:=by
 have o1:gU A 0 ⟨[],.eq kM A.hk⟩:=BR (aaJ hA) (qI hA hA.n0) (Dz hA.n0).symm;have o2:gU A 0 ⟨[],.eq A.h A.h⟩:=BR (qI hA hA.n2) (qI hA hA.n2) rfl;have hr:bS ([],[]) (.define .K (bz A.n0).tm)=some ([c9 ⟨[],.eq kM A.hk⟩],Fg):=by
  unfold bS;rw[Rw hA.n0];rfl
 have i1:gV A 0 Fg [.define .K (bz A.n0).tm] [⟨[],.eq kM A.hk⟩]:=by
  refine⟨?_,Jz,⟨yf hA hA.n0,λ t ht=>⟨λ th xN=>?_,trivial⟩⟩,λ t ht=>?_,dB rfl,dB rfl⟩
  .show(bS ([],[]) _).bind _=_;refine bO (hr ..) ?_;rfl
  .haveI ht:=hr▸ht;obtain rfl:=bD ht;refine bO (fW.mp xN ..) ?_;exact o1.Mt hA (by decide)
  .refine bO (fW.mp ht ..) ?_;exact o1
 exact Am hA i1 (yf hA hA.n2) (Rx _ hA.n2) o2 (cy _) (by decide) Jz (dB rfl) (dB rfl)
noncomputable def moB(t:Tm):Bool:=(Nat.ble t.dp 60&&Nat.ble t.sz 900)&&(Nat.ble t.vs 500&&Nat.ble t.pk 100)
theorem BS(h:l.all moB=true)(x:Tm)(hx:x∈l):Mo x:=by
 obtain⟨a,b⟩:=oy.mp (fX.mp h x hx);obtain⟨a,c⟩:=oy.mp a;obtain⟨b,d⟩:=oy.mp b;exact⟨dB a,dB c,dB b,dB d⟩
theorem JA(hA:A.Ok)(d:Nat):Mo (A.BI d):=by
 have n:=yf hA hA.n2;exact kZ (λ x hx=>(bX.mp hx).elim (λ q=>List.eq_of_mem_replicate q▸n) (BS rfl x)) n d
theorem Ry(hA:A.Ok)(made:List Th):match A.gT with
  |none=>gN made Fg (.define (Fb A.d) (A.BI A.d))=none
  |some t=>gN made Fg (.define (Fb A.d) (A.BI A.d))=some (c9 t,XW)/\gU A 0 t:=by
 obtain⟨n0,n2,d,u,w,e,b⟩:=A;have hd:=hA.d;have h2:=hA.n2;dsimp only at hd h2;unfold dq.gT;dsimp only;by_cases h4:d<4
 .rw[if_pos h4];refine⟨?_,BR (aaK hA) (qI hA h2) (Dz h2).symm⟩;exact(aB (aB rfl (aB rfl (aB rfl (aB rfl iH)))) (aB (aB rfl (aB rfl (aB rfl (aB rfl iH)))) (aB (aB rfl (aB rfl (aB rfl (aB rfl iH)))) (aB (aB rfl (aB rfl (aB rfl (aB rfl iH)))) iH))):∀d,d<4->∀m,m<4->gN made Fg (.define (Fb d) (dq.BI ⟨n0,m,d,u,w,e,b⟩ d))=some (c9 ⟨[],.eq nM (jY (bz m))⟩,XW)) d h4 n2 h2
 .rw[if_neg h4];exact(aB (λ _ _ _=>rfl) (aB (λ _ _ _=>rfl) (aB (λ _ _ _=>rfl) (aB (λ _ _ _=>rfl) (aB (λ _ _ _=>rfl) (aB (λ _=>(aB rfl (aB rfl (aB rfl (aB rfl iH))))) (aB (λ _=>(aB rfl (aB rfl (aB rfl (aB rfl iH))))) (aB (λ q=>absurd (by decide) q) (aB (λ q=>absurd (by decide) q) (aB (λ q=>absurd (by decide) q) (aB (λ q=>absurd (by decide) q) iH)))))))))):∀d,d<11->¬d<4->∀m,m<4->gN made Fg (.define (Fb d) (dq.BI ⟨n0,m,d,u,w,e,b⟩ d))=none) d hd h4 n2 h2
noncomputable def push(L:List mi×List Tt)(x:mi):Option Tt->List mi×List Tt
 |none=>L
 |some t=>(L.1++[x],L.2++[t])
end
structure ahl(A:dq)(L L':Nat)(cs:iu)(model:List Tt)(x:mi)(due:Option Tt)(Al:iu):Prop where
 mo:sg x
 no:due=none->gN (model.map c9) cs x=none/\Al=cs
 so:∀t,due=some t->gN (model.map c9) cs x=some (c9 t,Al)/\gU A L' t/\pH Al
section
variable {A:dq}{L L' e:Nat}{cs Al:iu}{ai:List mi}{model:List Tt}{due:Option Tt}
theorem nz(hA:A.Ok){x:mi}(hI:gV A L cs ai model)(h:ahl A L L' cs model x due Al)(hL:L<=L')(XU:L'<=4)(J3:ai.length<=90)(J9:model.length<=90):gV A L' Al (push (ai,model) x due).1 (push (ai,model) x due).2:=by
 induction due with
 |none=>
  obtain⟨_,e⟩:=h.no rfl;rw[e];exact⟨hI.run,hI.cs,hI.good,λ t ht=>(hI.ok t ht).mono hL,hI.ls,hI.lm⟩
 |some t=>
  obtain⟨h1,h2,h3⟩:=h.so t rfl;exact Am hA hI h.mo h1 h2 hL XU h3 J3 J9
theorem wJ(hA:A.Ok)(hI:gV A L cs ai model)(k:K2)(i j:Int):ahl A L (L+1) cs model (.two k i j) (nu k model i j) cs:=by
 have hg:∀i,dX (model.map c9) i=(agW model i).map c9:=by
  intro i;unfold dX agW;rw[bR,List.getElem?_map];split<;>rfl
 have hm:∀{i t},agW model i=some t->t∈model:=by
  intro i t h;unfold agW at h;split at h
  .cases h
  .exact dH h
 have e:gN (model.map c9) cs (.two k i j)=dx cs ((agW model i).bind λ a=>(agW model j).bind λ b=>eH k (c9 a) (c9 b)):=by
  show dx cs ((dX (model.map c9) i).bind λ l=>(dX (model.map c9) j).bind λ r=>eH k l r)=_;rw[hg,hg];cases agW model i with
  |none=>rfl
  |some a=>cases agW model j<;>rfl
 unfold nu;cases ga:agW model i with
 |none=>exact⟨trivial,λ _=>⟨by rw[e,ga];rfl,rfl⟩,λ t h=>nomatch h⟩
 |some a=>
  cases gb:agW model j with
  |none=>exact⟨trivial,λ _=>⟨by rw[e,ga,gb];rfl,rfl⟩,λ t h=>nomatch h⟩
  |some b=>
   have hc:=Ms hA k (hI.ok a (hm ga)) (hI.ok b (hm gb));rw[ga,gb] at e;dsimp only[Option.bind] at e ⊢;cases hq:oI k a b with
   |none=>
    rw[hq] at hc;exact⟨trivial,λ _=>⟨by rw[e,hc];rfl,rfl⟩,λ t h=>nomatch h⟩
   |some t=>
    rw[hq] at hc;refine⟨trivial,(λ h=>nomatch h),λ u h=>?_⟩;cases h;exact⟨by rw[e,hc.1];rfl,hc.2,hI.cs⟩
def qK(o l:List Vr):List Vr:=l.foldl (λ o v=>if bt v o then o else o++[v]) o
theorem lW(o:List Vr)(v:Vr)(l:List Vr):qK o (v::l)=qK (if bt v o then o else o++[v]) l:=rfl
theorem lX{o:List Vr}{v:Vr}(h:o.Nodup)(hv:v∉o):(o++[v]).Nodup:=by
 refine List.pairwise_append.mpr ⟨h,List.pairwise_singleton _ _,λ a ha b hb e=>?_⟩;rw[fW.mp hb] at e;exact hv (e▸ha)
theorem sY{v:Vr}{o:List Vr}(h:bt v o=false):v∉o:=λ hv=>by haveI h:=(gA.mpr hv)▸h;exact Bool.noConfusion h
theorem Aq:∀(l o:List Vr),o.Nodup->(qK o l).Nodup:=by
 intro l;induction l with
 |nil=>intro o h;exact h
 |cons v l ih=>
  intro o h;rw[lW];cases hm:bt v o with
  |true=>exact ih o h
  |false=>exact ih _ (lX h (sY hm))
theorem Fh(x:Vr):∀(l o:List Vr),x∈qK o l↔x∈o\/x∈l:=by
 intro l;induction l with
 |nil=>intro o;simp[qK]
 |cons v l ih=>
  intro o;simp only[lW,ih];cases hm:bt v o with
  |true=>
   haveI:=gA.mp hm;rw[if_pos rfl,e8];exact⟨λ h=>h.elim .inl λ h=>.inr (.inr h),λ h=>h.elim .inl λ h=>h.elim (λ h=>.inl (h▸this)) .inr⟩
  |false=>rw[if_neg (by simp),bX,fW,e8,or_assoc]
theorem JB:∀(l o:List Vr),(qK o l).length<=o.length+l.length:=by
 intro l;induction l with
 |nil=>intro o;simp[qK]
 |cons v l ih=>
  intro o;simp only[lW,List.length_cons];cases hm:bt v o with
  |true=>have:=ih o;rw[if_pos rfl];exact eR this
  |false=>have:=ih (o++[v]);rw[cO,List.length_singleton] at this;rw[if_neg (by simp)];exact ao this (bV (gk ..))
theorem JC:∀(l o:List Vr),o.Nodup->((qK o l).length=o.length+l.length↔(o++l).Nodup):=by
 intro l;induction l with
 |nil=>intro o h;rw[List.append_nil];exact⟨λ _=>h,λ _=>by simp[qK]⟩
 |cons v l ih=>
  intro o h;simp only[lW,List.length_cons];cases hm:bt v o with
  |true=>
   haveI hv:=gA.mp hm;rw[if_pos rfl];refine⟨λ e=>?_,λ hn=>?_⟩
   .haveI:=JB l o;exact absurd (e▸this) (Nat.not_succ_le_self _)
   .exact absurd rfl ((List.pairwise_append.mp hn).2.2 v hv v dC)
  |false=>
   have:=ih (o++[v]) (lX h (sY hm))
   rw[cO,List.length_singleton,List.append_assoc] at this;rw[if_neg (by simp),←show(o++([v]++l))=o++v::l from rfl,←this];constructor<;>intro e<;>exact e.trans (by rw[gk,Nat.add_assoc])
theorem qL:∀{a b:List Vr},a.Nodup->(∀x∈a,x∈b)->a.length<=b.length:=by
 intro a;induction a with
 |nil=>intro b _ _;exact dJ _
 |cons x a ih=>
  intro b hn hs;obtain⟨l,r,e⟩:=List.append_of_mem (hs x dC);haveI hx:=List.pairwise_cons.mp hn;haveI:=ih (b:=l++r) hx.2 λ y hy=>by
   haveI h1:=hs y (d8 _ hy);rw[e] at h1;rcases bX.mp h1 with h|h
   .exact List.mem_append_left _ h
   .rcases e8.mp h with h|h
    .exact absurd h.symm (hx.1 y hy)
    .exact List.mem_append_right _ h
  rw[e];simp only[cO,List.length_cons] at this ⊢;exact cv this
theorem wK{a b:List Vr}(ha:a.Nodup)(hb:b.Nodup)(h:∀x,x∈a↔x∈b):a.length=b.length:=
 Nat.le_antisymm (qL ha λ x hx=>(h x).mp hx) (qL hb λ x hx=>(h x).mpr hx)
theorem iA(l:List Vr):(eV l).Nodup:=Aq l [] List.Pairwise.nil
theorem lj(x:Vr)(l:List Vr):x∈eV l↔x∈l:=(Fh x l []).trans ⟨λ h=>h.elim (λ h=>absurd h List.not_mem_nil) id,.inr⟩
theorem JD(l:List Vr):(eV l).length=l.length↔l.Nodup:=by
 haveI:=JC l [] List.Pairwise.nil;rw[List.length_nil,Nat.zero_add,List.nil_append] at this;exact this
theorem JE(ps:List Tp):∀(l o:List Vr),o.Nodup->((ez (fB ps) o l).isSome=true↔(o++l.map (gM ps)).Nodup):=by
 intro l;induction l with
 |nil=>intro o h;simp only[List.map_nil,List.append_nil];exact⟨λ _=>h,λ _=>rfl⟩
 |cons v l ih=>
  intro o h;show(((fB ps o v).bind λ b=>ez (fB ps) b l).isSome=true)↔_;unfold fB;cases hm:bt (gM ps v) o with
  |true=>
   rw[if_pos rfl];refine⟨λ e=>Bool.noConfusion e,λ hn=>?_⟩;exact absurd rfl ((List.pairwise_append.mp hn).2.2 _ (gA.mp hm) _ dC)
  |false=>
   rw[if_neg (by simp)];haveI:=ih (o++[gM ps v]) (lX h (sY hm));rw[List.append_assoc] at this;exact this
theorem uP:∀(t:Tm) (o:List Vr),o.Nodup->(aH t o).Nodup:=by
 haveI add:∀(v:Vr) (o:List Vr),o.Nodup->(if bt v o then o else o++[v]).Nodup:=by
  intro v o h;cases hm:bt v o with
  |true=>exact h
  |false=>exact lX h (sY hm)
 intro t;induction t with
 |var x k t=>intro o h;exact add _ o h
 |con x t=>intro o h;exact h
 |app f a iX gd=>intro o h;exact gd _ (iX _ h)
 |lam x k t a ih=>intro o h;exact ih _ (add _ o h)
theorem Mw:∀(hs:List Mf) (o:List Vr),(∀m∈hs,W0 m.w0)->o.Nodup ->
  ((hs.map λ m=>m.w0.tm).foldl (λ o t=>aH t o) o).Nodup/\∀v,v∈(hs.map λ m=>m.w0.tm).foldl (λ o t=>aH t o) o↔v∈o\/v∈hs.flatMap (Dq 0):=by
 intro hs;induction hs with
 |nil=>intro o _ h;exact⟨h,λ v=>by simp⟩
 |cons m hs ih=>
  intro o hw h;haveI h1:=ih (aH m.w0.tm o) (λ q hq=>hw q (d8 _ hq)) (uP _ o h);refine⟨h1.1,λ v=>?_⟩;refine(h1.2 v).trans ?_;rw[iV,(hw m dC).vs v,List.flatMap_cons,bX (s:=Dq 0 m),or_assoc];rfl
theorem DA{t:Tt}(hh:∀m∈t.hs,W0 m.w0)(hc:W0 t.c.w0):(agE (c9 t)).Nodup/\∀v,v∈agE (c9 t)↔v∈jB t:=by
 haveI h1:=Mw t.hs [] hh List.Pairwise.nil;refine⟨uP _ _ h1.1,λ v=>?_⟩;show v∈aH t.c.w0.tm ((t.hs.map λ m=>m.w0.tm).foldl (λ o t=>aH t o) [])↔_;rw[iV,h1.2 v,hc.vs v];unfold jB;simp only[List.flatMap_append,List.flatMap_cons,List.flatMap_nil,List.append_nil];show(v∈[]\/v∈t.hs.flatMap (Dq 0))\/v∈Dq 0 t.c↔v∈t.hs.flatMap (Dq 0)++Dq 0 t.c;rw[bX];exact or_congr_left ⟨λ h=>h.elim (λ h=>absurd h List.not_mem_nil) id,.inr⟩
theorem DB{t:Tt}(hh:∀m∈t.hs++[t.c],W2 e m.w0 m.w2):pC t=(jB t).map (gM (gh e)):=by
 haveI:∀l:List Mf,(∀m∈l,W2 e m.w0 m.w2)->l.flatMap (Dq 2)=(l.flatMap (Dq 0)).map (gM (gh e)):=by
  intro l;induction l with
  |nil=>intro _;rfl
  |cons m l ih=>
   intro h;haveI hm:=h m dC;simp only[List.flatMap_cons,List.flatMap_cons,List.map_append,ih λ q hq=>h q (d8 _ hq)];congr 1;show m.w2.fv++m.w2.bv=(m.w0.fv++m.w0.bv).map _;simp only[hm.fv,hm.bv,List.map_append]
 exact this _ hh
theorem BU{t:Tt}(hh:∀m∈t.hs,W0 m.w0)(hc:W0 t.c.w0)(h2:∀m∈t.hs++[t.c],W2 e m.w0 m.w2):(eV (jB t)).length=(eV (pC t)).length↔(ez (fB (gh e)) [] (agE (c9 t))).isSome=true:=by
 haveI sn:=(DA hh hc).1;haveI sm:=(DA hh hc).2;simp only[JE _ _ _ List.Pairwise.nil,List.nil_append,←JD,bR,DB h2];haveI e1:(eV (jB t)).length=(agE (c9 t)).length:=wK (iA _) sn λ x=>by rw[lj,sm]
 haveI e2:(eV ((jB t).map (gM (gh e)))).length=(eV ((agE (c9 t)).map (gM (gh e)))).length:=wK (iA _) (iA _) λ x=>by
  rw[lj,lj,gm,gm];exact⟨λ⟨y,hy,h⟩=>⟨y,(sm y).mpr hy,h⟩,λ⟨y,hy,h⟩=>⟨y,(sm y).mp hy,h⟩⟩
 simp only[e1,e2];exact eq_comm
end
def dq.eM(A:dq)(kd:Fk)(i:Int):mi:=match kd with
 |.inst=>.inst (ag6 A.u A.w A.e) i
 |.insttype=>.insttype (gh A.e) i
 |.abs=>.abs (vL A.e) i
 |.sym=>.bad i
noncomputable def dq.good(A:dq):Bool:=Nat.blt A.u 5&&Nat.blt A.w 5
def dq.pI(A:dq)(kd:Fk)(t:Tt):Option Th:=match kd with
 |.inst=>if A.good then some (rx 1 t) else none
 |kd=>jC kd (vL A.e) t
theorem Rz:((List.range 5).all λ i=>rF (bb i).tm&&Rd (ags (bb i).tm) .bool)=true:=by decide +kernel
section
variable {cs:iu}{L i k:Nat}{A:dq}
theorem nA(h:pH cs)(hi:i<5):agr cs (bb i).tm=some .bool/\ags (bb i).tm=some .bool:=by
 have:=aJ Rz hi
 rw[dN] at this;refine⟨?_,xX this.2⟩;unfold agr;rw[qJ h.k this.1,if_pos rfl];exact xX this.2
theorem Ar{α β γ:Type}{g:β->Option γ}{f:α->β}{h:α->γ}:∀{l:List α},(∀x∈l,g (f x)=some (h x))->kU g (l.map f)=some (l.map h)
 |[],_=>rfl
 |x::l,hx=>by
  show(g (f x)).bind (λ y=>(kU g (l.map f)).map (y::·))=_;rw[hx x dC,Ar λ y hy=>hx y (d8 _ hy)];rfl
theorem RA(hA:A.Ok)(hu:A.u<5)(hw:A.w<5)(hk:k<9):WN (A.entry k).w1:=by
 have:=BJ (aJ (aJ (aJ (aJ Rg hk) hu) hw) hA.e)
 rw[Dw (A:=oo A.u A.w A.e) (B:=A) k rfl rfl rfl] at this;exact this
theorem RB(hA:A.Ok)(hk:k<9):WN (A.entry k).w2:=by
 have:=BJ (aJ (aJ Rh hk) hA.e)
 rw[Ag (A:=oo 0 0 A.e) (B:=A) k rfl] at this;exact this
theorem Mx(hA:A.Ok)(hu:A.u<5)(hw:A.w<5)(h:pH cs){t:Tt}(ht:gU A L t):nj cs (ag6 A.u A.w A.e) (c9 t)=some (rx 1 t):=by
 have cu:=nA h hu;have cw:=nA h hw;have ce:=nA h (Nat.lt_trans hA.e (by decide));have u9:(ag6 A.u A.w A.e).all (λ p=>(agr cs p.2).isSome)=true:=by
  show((agr cs (bb A.u).tm).isSome&&((agr cs (bb A.w).tm).isSome&&((agr cs (bb A.e).tm).isSome&&true)))=true;rw[cu.1,cw.1,ce.1];rfl
 have Hm:(ag6 A.u A.w A.e).all iq=true:=by
  show(iq (_,(bb A.u).tm)&&(iq (_,(bb A.w).tm)&&(iq (_,(bb A.e).tm)&&true)))=true;unfold iq;rw[cu.2,cw.2,ce.2];rfl
 have hp:∀{m:Mf},lg A m->agR (ag6 A.u A.w A.e) m.w0.tm=some m.w1.tm:=λ hm=>by
  unfold agR;rw[Hm,if_pos rfl,(hm.w1 hu hw).pt]
 unfold nj;rw[u9,if_pos rfl];show(kU (agR (ag6 A.u A.w A.e)) (t.hs.map λ m=>m.w0.tm)).bind (λ hs=>(agR (ag6 A.u A.w A.e) t.c.w0.tm).map λ c=>Th.mk (eU [] hs) c)=_;rw[Ar (h:=λ m=>m.w1.tm) λ m hm=>hp (lU hA ht.hs hm),hp ht.c];show some (Th.mk (eU ([].map λ m=>(Mf.w m 1).tm) (t.hs.map λ m=>(Mf.w m 1).tm)) _)=_;rw[ye 1 t.hs [] (λ m hm=>absurd hm List.not_mem_nil) λ m hm=>by obtain⟨k,hk,e⟩:=ht.hs m hm;rw[e];exact RA hA hu hw hk];rfl
theorem DC(h:pH cs)(h5:5<=i):agr cs (bb i).tm=none\/∀w:Vr,w.t=.bool->iq (w,(bb i).tm)=false:=by
 by_cases e:i=5
 .left;subst e;simp[agr,bb,mW,vu,h.m,Cn.same,Cn.i]
 .right;have:bb i=WV:=by
   unfold bb;rw[jG,List.getElem?_eq_none (show 6<=i by exact FY h5 e)];rfl
  rw[this];intro w hw;show(match ags (Tm.var .z 0 sq) with|some ty=>ty.eq w.t|none=>false)=false;rw[hw];rfl
theorem My(hA:A.Ok)(hg:¬(A.u<5/\A.w<5))(h:pH cs)(th:Th):nj cs (ag6 A.u A.w A.e) th=none:=by
 have uH:(ag6 A.u A.w A.e).all (λ p=>(agr cs p.2).isSome)=false\/(ag6 A.u A.w A.e).all iq=false:=by
  by_cases hu:A.u<5
  .have hw:5<=A.w:=by exact Nat.le_of_not_lt λ q=>hg ⟨hu,q⟩
   rcases DC h hw with e|e
   .left;show((agr cs (bb A.u).tm).isSome&&((agr cs (bb A.w).tm).isSome&&((agr cs (bb A.e).tm).isSome&&true)))=false;rw[e];simp
   .right;show(iq (_,(bb A.u).tm)&&(iq (⟨.x,1,.bool⟩,(bb A.w).tm)&&(iq (_,(bb A.e).tm)&&true)))=false;rw[e _ rfl];simp
  .rcases DC h (by exact jI hu:5<=A.u) with e|e
   .left;show((agr cs (bb A.u).tm).isSome&&((agr cs (bb A.w).tm).isSome&&((agr cs (bb A.e).tm).isSome&&true)))=false;rw[e];simp
   .right;show(iq (⟨.p,0,.bool⟩,(bb A.u).tm)&&(iq (_,(bb A.w).tm)&&(iq (_,(bb A.e).tm)&&true)))=false;rw[e _ rfl];simp
 unfold nj;rcases uH with e|e
 .rw[e];rfl
 .have:agR (ag6 A.u A.w A.e) th.c=none:=by unfold agR;rw[e];rfl
  rw[this];split
  .cases kU (agR (ag6 A.u A.w A.e)) th.hs<;>rfl
  .rfl
theorem Mz(hA:A.Ok){t:Tt}(ht:gU A L t):ro (gh A.e) (c9 t)=jC .insttype (vL A.e) t:=by
 have h2:∀m∈t.hs++[t.c],W2 A.e m.w0 m.w2:=λ m hm=>by
  rcases bX.mp hm with h|h
  .exact(lU hA ht.hs h).w2
  .rw[fW.mp h];exact ht.c.w2
 have hc:=BU (λ m hm=>(lU hA ht.hs hm).w0) ht.c.w0 h2;have hj:eU [] ((c9 t).hs.map (aY (gh A.e)))=nt 2 t:=by
  have e:(c9 t).hs.map (aY (gh A.e))=t.hs.map λ m=>(Mf.w m 2).tm:=by
   show(t.hs.map λ m=>m.w0.tm).map _=_;rw[List.map_map];exact List.map_congr_left λ m hm=>(lU hA ht.hs hm).w2.pt
  rw[e];exact ye 2 t.hs [] (λ m hm=>absurd hm List.not_mem_nil) λ m hm=>by obtain⟨k,hk,e⟩:=ht.hs m hm;rw[e];exact RB hA hk
 unfold ro jC;dsimp only;cases hf:ez (fB (gh A.e)) [] (agE (c9 t)) with
 |none=>
  rw[hf] at hc;rw[if_neg λ e=>by have:=hc.mp e;cases this];rfl
 |some o=>
  rw[hf] at hc;rw[if_pos (hc.mpr rfl)];show some (Th.mk (eU [] ((c9 t).hs.map (aY (gh A.e)))) (aY (gh A.e) t.c.w0.tm))=_;rw[hj,ht.c.w2.pt];rfl
theorem O0{t:Tt}(ht:gU A L t):nt 0 t=t.hs.map λ m=>m.w0.tm:=by
 unfold nt;rw[BQ t.hs [] ht.ds];rfl
end
theorem DD{A:dq}(hA:A.Ok)(v:Vr):∀l:List Mf,(∀m∈l,lg A m)->((l.map λ m=>m.w0.tm).all λ h=>!(bt v (aS h)))=!(bt v (l.flatMap λ m=>m.w0.fv))
 |[],_=>rfl
 |m::l,h=>by
  have e:bt v (aS m.w0.tm)=bt v m.w0.fv:=by rw[Bool.eq_iff_iff,gA,gA];exact(h m dC).w0.fv v
  have a:bt v (m.w0.fv++l.flatMap λ m=>m.w0.fv)=(bt v m.w0.fv || bt v (l.flatMap λ m=>m.w0.fv)):=by unfold bt;rw[List.any_append]
  rw[List.map_cons,List.all_cons,List.flatMap_cons,DD hA v l λ q hq=>h q (d8 _ hq),e,a,Bool.not_or]
section
variable {A:dq}{L L':Nat}{model:List Tt}{cs Al:iu}{ai:List mi}{due:Option Tt}
theorem RC(hA:A.Ok){t:Tt}(ht:gU A L t)(v:Vr):qA v (c9 t)=jC .abs v t:=by
 have hs:=ht.c.dn;have oc:=ht.c;have h0:=O0 ht;have ha:=DD hA v t.hs λ m hm=>lU hA ht.hs hm;obtain⟨lC,c⟩:=t;dsimp only at hs oc ha;show(dn c.w0.tm).bind _=_;refine bO (hs ..) ?_;induction c with
 |jV x y z=>rfl
 |eq l r=>
  show(if((lC.map λ m=>m.w0.tm).all λ h=>!(bt v (aS h)))=true then(ags (.lam v.x v.k v.t l.w0.tm)).map (λ s=>Th.mk (lC.map λ m=>m.w0.tm) (eqT s (.lam v.x v.k v.t l.w0.tm) (.lam v.x v.k v.t r.w0.tm))) else none)=_;refine bO (ha ..) ?_;have ht':ags (.lam v.x v.k v.t l.w0.tm)=some (.fn v.t l.w0.ty):=by show(ags l.w0.tm).map _=_;refine bO (oc.1.w0.ty ..) ?_;rfl
  refine bO (ht' ..) ?_;show _=if bt v (BG ⟨lC,.eq l r⟩) then none else some _
  refine bO (h0 ..) ?_;show(if(!bt v (BG ⟨lC,.eq l r⟩))=true then _ else _)=_;cases bt v (BG ⟨lC,.eq l r⟩)<;>rfl
theorem iZ(model:List Tt)(i:Int):dX (model.map c9) i=(agW model i).map c9:=by
 unfold dX agW;rw[bR,List.getElem?_map];split<;>rfl
theorem uQ{i:Int}{t:Tt}(h:agW model i=some t):t∈model:=by
 unfold agW at h;split at h
 .cases h
 .exact dH h
theorem JF(hA:A.Ok)(hI:gV A L cs ai model)(kd:Fk)(i:Int):gN (model.map c9) cs (A.eM kd i)=dx cs ((agW model i).bind (A.pI kd)):=by
 cases hg:agW model i with
 |none=>
  cases kd with
  |inst=>show dx cs ((dX (model.map c9) i).bind _)=_;rw[iZ,hg];rfl
  |insttype=>show dx cs ((dX (model.map c9) i).bind _)=_;rw[iZ,hg];rfl
  |abs=>show dx cs ((dX (model.map c9) i).bind _)=_;rw[iZ,hg];rfl
  |sym=>rfl
 |some t=>
  haveI ht:=hI.ok t (uQ hg);induction kd with
  |inst=>
   show dx cs ((dX (model.map c9) i).bind _)=_;rw[iZ,hg];show dx cs (nj cs (ag6 A.u A.w A.e) (c9 t))=dx cs (if A.good=true then some (rx 1 t) else none);by_cases h:A.u<5/\A.w<5
   .rw[Mx hA h.1 h.2 hI.cs ht,if_pos (by unfold dq.good;rw[dN,Nat.blt_eq,Nat.blt_eq];exact h)]
   .rw[My hA h hI.cs,if_neg (by unfold dq.good;rw[dN,Nat.blt_eq,Nat.blt_eq];exact h)]
  |insttype=>
   show dx cs ((dX (model.map c9) i).bind _)=_;rw[iZ,hg];show dx cs (ro (gh A.e) (c9 t))=_;rw[Mz hA ht];rfl
  |abs=>
   show dx cs ((dX (model.map c9) i).bind _)=_;rw[iZ,hg];show dx cs (qA (vL A.e) (c9 t))=_;rw[RC hA ht];rfl
  |sym=>rfl
theorem DE(e:Nat):(vL e).t.dp<=0/\(vL e).k<=5:=by
 rcases e with _|_|_|e<;>exact⟨dB rfl,dB rfl⟩
theorem RE(e:Nat):∀p∈gh e,p.2.dp<=20:=by
 have h:(gh e).all (λ p=>Nat.ble p.2.dp 20)=true:=by rcases e with _|_|_|e<;>rfl
 exact λ p hp=>dB (fX.mp h p hp)
theorem MA:((List.range 7).all λ i=>Nat.ble (bb i).tm.dp 20&&(Nat.ble (bb i).tm.sz 20&&(Nat.ble (bb i).tm.vs 20&&Nat.ble (bb i).tm.pk 5)))=true:=by decide +kernel
theorem uR{i:Nat}(h:i<7):Mo (bb i).tm/\(bb i).tm.sz<=100:=by
 haveI:=aJ MA h;simp only[dN,Nat.ble_eq] at this;obtain⟨h1,h2,h3,h4⟩:=this;exact⟨⟨by exact aj h1 rfl,by exact aj h2 rfl,by exact aj h3 rfl,by exact aj h4 rfl⟩,by exact aj h2 rfl⟩
theorem RF(hA:A.Ok)(kd:Fk)(i:Int):sg (A.eM kd i):=by
 induction kd with
 |inst=>
  refine⟨λ p hp=>?_,(by decide:3<=100)⟩;unfold ag6 at hp;rcases e8.mp hp with rfl|hp
  .exact⟨(uR hA.u).1,(by decide:0<=60),(uR hA.u).2⟩
  rcases e8.mp hp with rfl|hp
  .exact⟨(uR hA.w).1,(by decide:0<=60),(uR hA.w).2⟩
  rcases e8.mp hp with rfl|hp
  .haveI:=uR (Nat.lt_trans hA.e (by decide:4<7));exact⟨this.1,(by decide:0<=60),this.2⟩
  .cases hp
 |insttype=>exact RE A.e
 |abs=>exact ao (DE A.e).1 (by decide)
 |sym=>trivial
theorem yg(hA:A.Ok)(hL:L<=4){t:Tt}(ht:gU A L t)(i:Nat)(hm:∀k,Mo ((A.entry k).w i).tm):(∀q∈nt i t,Mo q)/\(nt i t).length<=100:=by
 refine⟨λ q hq=>?_,?_⟩
 .obtain⟨m,h1,e⟩:=gm.mp hq;rcases wH t.hs [] h1 with h|h
  .cases h
  .obtain⟨k,_,e'⟩:=ht.hs m h;rw[←e,e'];exact hm k
 .haveI:=nS i t.hs [];have:=ht.ln
  haveI:=uO hL;unfold nt;rw[bR];rw[List.length_nil] at *;exact ao ‹_› (ao (bV (Nat.zero_add _)) (aj (ao ‹_› this) rfl))
theorem JG(hA:A.Ok)(hL:L<=4){t:Tt}(ht:gU A L t)(kd:Fk){th:Th}(h:A.pI kd t=some th):oh th:=by
 have hp:=uO hL;induction kd with
 |inst=>
  unfold dq.pI at h;dsimp only at h;split at h
  .obtain rfl:=bD h;have:=yg hA hL ht 1 λ k=>(lh hA k).2.1
   exact⟨this.1,ht.z.w1.mo (by exact pO hp rfl) (by exact rP hL rfl),this.2⟩
  .cases h
 |insttype=>
  haveI h:jC .insttype (vL A.e) t=some th:=h;unfold jC at h;dsimp only at h;split at h
  .obtain rfl:=bD h;haveI:=yg hA hL ht 2 λ k=>(lh hA k).2.2;exact⟨this.1,ht.z.w2.mo (by exact pO hp rfl) (by exact rP hL rfl),this.2⟩
  .cases h
 |sym=>cases h
 |abs=>
  haveI h:jC .abs (vL A.e) t=some th:=h;haveI hm:=yg hA hL ht 0 λ k=>(lh hA k).1;haveI hz:=ht.z;obtain⟨hs,c⟩:=t;cases c with
  |jV x y z=>cases h
  |eq l r=>
   unfold jC at h;dsimp only[ag9,Option.bind] at h;split at h
   .cases h
   .obtain rfl:=bD h;haveI v0:=(DE A.e).1;haveI v1:=(DE A.e).2;obtain⟨h1,h2,h3,h4,h5,h6,h7,h8,h9,ha,hb⟩:=hz.2.2.1.ze;haveI z:Zw (3 * 2 ^ L+1) (14+5 * L+5) (bG (gg (vL A.e).x (vL A.e).k (vL A.e).t l.w0) (gg (vL A.e).x (vL A.e).k (vL A.e).t r.w0)):=by
     refine Ze.zw ⟨?_,?_,?_,?_,?_,?_,?_,?_,?_,?_,?_⟩
     .show l.w0.fv.length+r.w0.fv.length<=_;exact Nr h1
     .show(l.w0.bv.length+1)+(r.w0.bv.length+1)<=_;exact Nt h2 rfl
     .show l.w0.tm.sz+r.w0.tm.sz<=_;exact Nr h3
     .show(l.w0.tm.vs+1)+(r.w0.tm.vs+1)<=_;exact Nt h4 rfl
     .show max (vL A.e).t.dp l.w0.ty.dp+1+4<=_;exact yq v0 h5
     .show max (vL A.e).t.dp l.w0.tm.dp+1+2<=_;exact yq v0 h6
     .show max (vL A.e).t.dp r.w0.tm.dp+1+1<=_;exact yq v0 h7
     .show max (vL A.e).t.dp l.w0.nl.dp+1+1<=_;exact yq v0 h8
     .show max (vL A.e).t.dp r.w0.nl.dp+1+1<=_;exact yq v0 h9
     .exact Nat.max_le.mpr ⟨v1,ha⟩
     .exact Nat.max_le.mpr ⟨v1,hb⟩
    exact⟨hm.1,z.mo (by exact S7 hp rfl) (by exact S8 hL rfl),hm.2⟩
theorem gU.n(hA:A.Ok)(hL:L<=4){t:Tt}(ht:gU A L t):TtN t:=by
 have hp:=uO hL;refine⟨λ m hm=>?_,by have:=ht.ln;exact rQ this hp rfl,ht.z.mn (by exact pO hp rfl) (by exact rP hL rfl),λ l r e=>?_⟩
 .obtain⟨k,_,e⟩:=ht.hs m hm;rw[e];haveI:=(gE hA k).w0.nl;show(A.entry k).w0.nl.dp<=900;exact aj this rfl
 .haveI z:=ht.z;haveI o:=ht.c;rw[e] at z o;exact⟨z.1.mn (by exact pO hp rfl) (by exact rP hL rfl),z.2.1.mn (by exact pO hp rfl) (by exact rP hL rfl),o.1.fn,o.2.1.fn,o.2.2⟩
theorem Xa:∀v∈S0,v.t.dp<=6:=by decide
theorem MB:((List.range 4).all λ e=>S0.all λ v=>Nat.ble (gM (gh e) v).t.dp 6)=true:=by decide +kernel
theorem As(g:Mf->List Vr)(B:Nat):∀l:List Mf,(∀m∈l,(g m).length<=B)->(l.flatMap g).length<=l.length * B
 |[],_=>by simp
 |m::l,h=>by
  haveI h1:=h m dC;haveI h2:=As g B l λ q hq=>h q (d8 _ hq);simp only[List.flatMap_cons,cO,List.length_cons,Nat.succ_mul];exact ao (bV (Nat.add_comm ..)) (Nat.add_le_add h2 h1)
theorem gU.f(hA:A.Ok)(hL:L<=4){t:Tt}(ht:gU A L t):WT t:=by
 have hp:=uO hL;have Xw:=ht.ln;have zc:=ht.z;have hZ:∀m∈t.hs++[t.c],ZM 48 34 m/\lg A m:=λ m hm=>by
  rcases bX.mp hm with h|h
  .obtain⟨k,_,e⟩:=ht.hs m h;rw[e];exact⟨(gE hA k).mono (by decide) (by decide),qH hA k⟩
  .rw[fW.mp h];exact⟨zc.mono (by exact pO hp rfl) (by exact rP hL rfl),ht.c⟩
 have XX:∀v∈jB t,v∈S0:=λ v hv=>by
  obtain⟨m,hm,h⟩:=List.mem_flatMap.mp hv;exact(hZ m hm).2.w0.s0 v h
 have gP:pC t=(jB t).map (gM (gh A.e)):=DB λ m hm=>(hZ m hm).2.w2;haveI hl:(jB t).length<=4000:=by
  haveI h0:=As (Dq 0) 20 t.hs λ m hm=>by
   obtain⟨k,_,e⟩:=ht.hs m hm;haveI h1:=(gE hA k).w0.fv;have h2:=(gE hA k).w0.bv;rw[e];show((A.entry k).w0.fv++(A.entry k).w0.bv).length<=_;rw[cO];exact gI h1 h2 rfl
  haveI h1:=(hZ t.c (List.mem_append_right _ dC)).1.w0.fv;haveI h2:=(hZ t.c (List.mem_append_right _ dC)).1.w0.bv;unfold jB;simp only[List.flatMap_append,cO,List.flatMap_cons,List.flatMap_nil,List.append_nil];haveI h3:(Dq 0 t.c).length=t.c.w0.fv.length+t.c.w0.bv.length:=cO;rw[h3];exact aj (Nat.add_le_add (ao h0 (Nat.mul_le_mul_right 20 (ao Xw hp))) (Nat.add_le_add h1 h2)) rfl
 refine⟨ht.n hA hL,λ m hm=>(hZ m hm).1.mn (by decide) (by decide),λ m hm=>?_,λ m hm=>?_,λ v hv=>Xa v (XX v hv),λ v hv=>?_,hl,by simp only[gP,bR];exact hl,?_,?_⟩
 .have:=(hZ m (List.mem_append_left _ hm)).1.w1.nl;show m.w1.nl.dp<=900;exact aj this rfl
 .have:=(hZ m (List.mem_append_left _ hm)).1.w2.nl;show m.w2.nl.dp<=900;exact aj this rfl
 .rw[gP] at hv;obtain⟨w,hw,e⟩:=gm.mp hv;haveI:=fX.mp (aJ MB hA.e) w (XX w hw);rw[←e];exact dB this
 .haveI:(eV (jB t)).length<=S0.length:=qL (iA _) λ x hx=>XX x ((lj x _).mp hx);exact eQ this (by decide)
 .haveI:(eV (pC t)).length<=(S0.map (gM (gh A.e))).length:=qL (iA _) λ x hx=>by
   haveI:=(lj x _).mp hx;rw[gP] at this;obtain⟨w,hw,e⟩:=gm.mp this;exact gm.mpr ⟨w,XX w hw,e⟩
  rw[bR] at this;exact eQ this (by decide)
theorem qM(hA:A.Ok)(n:Nat){x:mi}(hI:gV A L cs ai model)(h:ahl A L L' cs model x due Al):CF (n+410) 44 [.loc 0,.loc 1,.d (bC x),.d (oJ due)] (S2 ai model)=.ok (.d (.bool false)) (S2 (push (ai,model) x due).1 (push (ai,model) x due).2):=by
 have hs:=hI.ls;have hm:=hI.lm;induction due with
 |none=>
  obtain⟨h1,h2⟩:=Ao hI h.mo (h.no rfl).1;exact uJ (n+406) (by exact lZ rfl) (S2 ai model) 0 1 ai x rfl (by exact aj hs rfl) h1 h2
 |some t=>
  have:=uK (n+409) (S2 ai model) 0 1 (by decide) (ai.map bC) (model.map iB) [.list (t.hs.map bf),bf t.c] (bC x) rfl rfl (by rw[bR];exact aj hs rfl) (by rw[bR];exact aj hm rfl)
  refine this.trans ?_;show Res.ok _ [agS.lst (ai.map bC++[bC x]),agS.lst (model.map iB++[iB t])]=Res.ok _ [agS.lst ((ai++[x]).map bC),agS.lst ((model++[t]).map iB)];rw[List.map_append,List.map_append];rfl
end
abbrev FL(s:Nat->Int)(agv:List PyData)(A:dq)(jD nB fU dQ eY iW fG gf jE l9 nE ma yp a36 RG:Option V:=none):agq:=
 [Dv (J8 s agv),Dv (eW pW),Dv (eW xW),Dv (eW xT),Dv (eW WV),Dv (.list (Ra.map eW)),Dv (eW (bb A.u)),Dv (eW (bb A.w)),Dv (eW (bb A.e)),Dv (.tuple ((gh A.e).map rm)),Dv (cI (FF A.e)),Dv (eW (vWt (vL A.e))),none,jD,nB,fU,Dv (.list (A.parts.map bf)),Dv (.list (A.entries.map bf)),Dv (.list (A.qC.map ay)),Dv (.tuple (ny.map eW)),Dv (bf A.hk),Dv (bf A.h),Dv (bf kM),Dv (bf nM),some (.loc 0),some (.loc 1),dQ,eY,iW,fG,gf,jE,l9,nE,ma,yp,a36,RG]
theorem MC{d:Nat}(h:d<11):dD (.str (st 46)) (.int d)=some (.str (st (Fb d).i)):=by
 revert h;revert d;exact @AF _ _ (aB rfl (aB rfl (aB rfl (aB rfl (aB rfl (aB rfl (aB rfl (aB rfl (aB rfl (aB rfl (aB rfl iH)))))))))))
theorem RH(A:dq){d:Nat}(h:d<11):dD (.list (List.replicate 6 (ay (bz A.n2).tm)++[ay (eX 0),ay (eX 1),ay (eX 2),ay (eX 3),ay (eX 4)])) (.int d)=some (ay (A.BI d)):=by
 revert h;revert d;exact @AF _ _ (aB rfl (aB rfl (aB rfl (aB rfl (aB rfl (aB rfl (aB rfl (aB rfl (aB rfl (aB rfl (aB rfl iH)))))))))))
theorem Fi{A:dq}(hA:A.Ok)(model:List Tt):∃Al,ahl A 0 0 Fg model (.define (Fb A.d) (A.BI A.d)) A.gT Al:=by
 have h:=Ry hA (model.map c9);cases hd:A.gT with
 |none=>haveI h:=hd▸h;exact⟨Fg,JA hA A.d,λ _=>⟨h,rfl⟩,λ t e=>nomatch e⟩
 |some t=>
  haveI h:=hd▸h;refine⟨XW,JA hA A.d,(λ e=>nomatch e),λ u e=>?_⟩;obtain rfl:=bD e;exact⟨h.1,h.2,Rv⟩
theorem aaM(x:PyData):agK .mul (.list [x]) (.int 6)=some (.list (List.replicate 6 x)):=rfl
theorem aaN(n:Nat)(s:Nat->Int)(agv:List PyData){A:dq}(hA:A.Ok):∃cs ai model,gV A 0 cs ai model/\ai.length<=3/\model.length<=3/\aD G (CF (n+410)) ((iR.drop 14).take 1) (FM s agv A (Dv (.int A.d)) (Dv (oJ A.gT))) (S2 A.pD A.rB) =
   .next (FL s agv A none none none (Dv (.int A.d)) (Dv (oJ A.gT))) (S2 ai model):=by
 obtain⟨Al,ag⟩:=Fi hA A.rB;have hI:=aaL hA;have hc:=qM hA n hI ag;refine⟨Al,_,_,nz hA hI ag (cy _) (by decide) (dB rfl) (dB rfl),?_,?_,?_⟩
 .cases A.gT<;>exact dB rfl
 .cases A.gT<;>exact dB rfl
 .have i1:=MC hA.d;have i2:=aaM (ay (bz A.n2).tm);have i3:jJ (.tuple [ay (eX 0),ay (eX 1),ay (eX 2),ay (eX 3),ay (eX 4)])=some (.list [ay (eX 0),ay (eX 1),ay (eX 2),ay (eX 3),ay (eX 4)]):=rfl;have i4:=nT (a:=List.replicate 6 (ay (bz A.n2).tm)) (b:=[ay (eX 0),ay (eX 1),ay (eX 2),ay (eX 3),ay (eX 4)]) (by simp);have i5:=RH A hA.d;exact run G (CF (n+410)) ((iR.drop 14).take 1) (FM s agv A (Dv (.int A.d)) (Dv (oJ A.gT))) (S2 A.pD A.rB) [.o _,.o _,.o _,.o _,.o _,.r _] i1 i2 i3 i4 i5 hc
section
variable {A:dq}{L a b:Nat}{cs:iu}{ai:List mi}{model:List Tt}{due:Option Tt}
theorem DF(σ:ae)(o:Option Tt):Q2 σ o=.ok (.d (oJ o)) σ:=by induction o<;>rfl
theorem rG(hA:A.Ok)(n:Nat)(hL:L<=4)(hI:gV A L cs ai model)(k:K2)(i j:Int):CF (n+410) 40 [.d (.str (st k.i)),.loc 1,.d (.int i),.d (.int j)] (S2 ai model)=.ok (.d (oJ (nu k model i j))) (S2 ai model):=by
 have:=hI.lm
 refine Nu (DF ..) ?_;exact xR (n+407) (S2 ai model) k 1 model i j rfl (by exact aj this rfl) λ t ht=>(hI.ok t ht).n hA hL
theorem uS{x:mi}(h1:ai.length<=a)(h2:model.length<=b):(push (ai,model) x due).1.length<=a+1/\(push (ai,model) x due).2.length<=b+1:=by
 induction due with
 |none=>exact⟨by show ai.length<=_;exact eR h1,by show model.length<=_;exact eR h2⟩
 |some t=>exact⟨by show(ai++[x]).length<=_;rw[cO,List.length_singleton];exact cv h1,by show(model++[t]).length<=_;rw[cO,List.length_singleton];exact cv h2⟩
theorem aaO(n:Nat)(s:Nat->Int)(agv:List PyData)(hA:A.Ok)(dQ eY:Option V)(hI:gV A 0 cs ai model)(h1:ai.length<=3)(h2:model.length<=3):∃eN eO,gV A 1 cs eN eO/\eN.length<=4/\eO.length<=4/\aD G (CF (n+410)) ((iR.drop 15).take 1) (FL s agv A none none none dQ eY) (S2 ai model) =
   .next (FL s agv A none none none dQ eY) (S2 eN eO):=by
 have ag:=wJ hA hI .trans 0 1;have hl:=uS (x:=.two .trans 0 1) (due:=nu .trans model 0 1) h1 h2;have hc:=rG hA n (by decide:0<=4) hI .trans 0 1;have ha:=qM hA n hI ag;refine⟨_,_,nz hA hI ag (by decide) (by decide) (by exact aj h1 rfl) (by exact aj h2 rfl),hl.1,hl.2,?_⟩;exact run G (CF (n+410)) ((iR.drop 15).take 1) (FL s agv A none none none dQ eY) (S2 ai model) [.r _,.r _] hc ha
noncomputable def rH:Nat->Sk
 |0=>.refl
 |2=>.beta
 |_=>.assume
end
def dq.rI(A:dq)(k:Nat):Tm:=if k<10 then(A.entry k).w0.tm else om A.b
def dq.qN(A:dq)(j k:Nat):Option Tt:=if k<10 then si (rH j) (A.entry k) else none
section
variable {L k q r u:Nat}{A:dq}{cs:iu}{ai:List mi}{model:List Tt}
theorem Fj(A:dq)(h:k<11):dD (.list (A.qC.map ay)) (.int k)=some (ay (A.rI k)):=by
 revert h;revert k;exact @AF _ _ (aB rfl (aB rfl (aB rfl (aB rfl (aB rfl (aB rfl (aB rfl (aB rfl (aB rfl (aB rfl (aB rfl iH)))))))))))
theorem Au(A:dq)(h:k<10):dD (.list (A.entries.map bf)) (.int k)=some (bf (A.entry k)):=by
 revert h;revert k;exact @AF _ _ (aB rfl (aB rfl (aB rfl (aB rfl (aB rfl (aB rfl (aB rfl (aB rfl (aB rfl (aB rfl iH))))))))))
theorem BV(hA:A.Ok)(hc:pH cs)(model:List Tt)(j k:Nat):ahl A 1 1 cs model ((rH j).OZ (A.rI k)) (A.qN j k) cs:=by
 have wm:∀t,Mo t->sg ((rH j).OZ t):=by
  intro t ht;cases rH j with
  |refl=>exact ht
  |assume=>exact ht
  |beta=>exact⟨ht,(by decide:0<=60)⟩
 unfold dq.rI dq.qN;by_cases hk:k<10
 .rw[if_pos hk,if_pos hk];haveI h:=Mu hA hc (model.map c9) (rH j) hk;cases hd:si (rH j) (A.entry k) with
  |none=>rw[hd] at h;exact⟨wm _ (lh hA k).1,λ _=>⟨h,rfl⟩,λ t e=>nomatch e⟩
  |some t=>
   rw[hd] at h;refine⟨wm _ (lh hA k).1,(λ e=>nomatch e),λ u e=>?_⟩;cases e;exact⟨h.1,h.2,hc⟩
 .rw[if_neg hk,if_neg hk];refine⟨wm _ ?_,λ _=>⟨Jy hc _ (rH j) A.b,rfl⟩,λ t e=>nomatch e⟩;exact kZ (BS rfl) (BS (l:=[_]) rfl _ dC) A.b
def uT:List S:=[.assign (.tup [(.var 29),(.var 27)]) (.tup [(.bin .mod (.bin .add (.bin .mod (Qx 0 6) (Qi 11)) (.bin .mod (.var 28) (Qi 4))) (Qi 11)),(.con .none)]),.assign (.var 30) (.idx (.tup [(.tup [(Qs 11),(.idx (.var 18) (.var 29))]),(.tup [(Qs 12),(.idx (.var 18) (.var 29))]),(.tup [(Qs 16),(.tup [(Qs 3),(Qs 23),(.glob 1)]),(.idx (.var 18) (.var 29))]),(.tup [(Qs 12),(.idx (.var 18) (.var 29))])]) (.bin .mod (.var 15) (Qi 4))),.ite (.cmp .lt (.var 29) (Qi 10)) [.assign (.var 27) (.call 41 [(Qx 30 0),(.idx (.var 17) (.var 29))])] [],.ite (.call 44 [(.var 24),(.var 25),(.var 30),(.var 27)]) [.ret (.con (.bool false))] []]
theorem ahw(a b:Nat):agK .add (.int a) (.int b)=some (.int (a+b:Nat)):=rfl
theorem rJ(n:Nat)(s:Nat->Int)(agv:List PyData)(hA:A.Ok)(hI:gV A 1 cs ai model)(J3:ai.length<=80)(J9:model.length<=80)(c m:Int)(dQ eY fG gf:Option V):∃RI aaP aaQ eN eO,gV A 1 cs eN eO/\eN.length<=ai.length+1/\eO.length<=model.length+1 /\
   aD G (CF (n+410)) uT (FL s agv A none none (Iv c) dQ eY (Iv m) fG gf) (S2 ai model) =
   .next (FL s agv A none none (Iv c) dQ RI (Iv m) aaP aaQ) (S2 eN eO):=by
 obtain⟨k6,h6,e6⟩:=c8 (s 6) 11 (by decide);obtain⟨q,hq,eq⟩:=c8 m 4 (by decide);obtain⟨k,hk,ek⟩:=c8 ((k6+q:Nat):Int) 11 (by decide);obtain⟨j,hj,ej⟩:=c8 c 4 (by decide);haveI m6:=iz (by decide) e6;haveI mq:=iz (by decide) eq;haveI mk:=iz (by decide) ek;haveI mj:=iz (by decide) ej;haveI ia:=ahw k6 q;haveI it:=Fj A hk;have ag:=BV hA hI.cs model j k;haveI hl:=uS (x:=(rH j).OZ (A.rI k)) (due:=A.qN j k) (cy ai.length) (cy model.length);haveI hc:=qM hA n hI ag;haveI hj4:j=0\/j=1\/j=2\/j=3:=by exact aB (P:=λ j=>j=0\/j=1\/j=2\/j=3) (.inr (.inr (.inr rfl))) (aB (.inr (.inr (.inl rfl))) (aB (.inr (.inl rfl)) (aB (.inl rfl) iH))) j hj
 by_cases Q1:k<10
 .have ie:=Au A Q1;have cl:=jX (fT (k:Int) 10) (by exact(s7 Q1 :));haveI hs:=E9 (n+407) (S2 ai model) (rH j) (A.entry k) ((gE hA k).mn (by decide) (by decide));rw[DF] at hs;haveI hd:A.qN j k=si (rH j) (A.entry k):=if_pos Q1;rw[hd] at hc hl;rw[hd] at ag;refine⟨Dv (oJ (si (rH j) (A.entry k))),Iv k,Dv (bC ((rH j).OZ (A.rI k))),_,_,nz hA hI ag (cy _) (by decide) (by exact aj J3 rfl) (by exact aj J9 rfl),hl.1,hl.2,?_⟩;rcases hj4 with rfl|rfl|rfl|rfl
  all_goals exact run G (CF (n+410)) uT (FL s agv A none none (Iv c) dQ eY (Iv m) fG gf) (S2 ai model) [.o _,.o _,.o _,.o _,.o _,.o _,.o _,.o _,.o _,.o _,.o _,.o _,.r _,.r _] m6 mq ia mk it it it it mj rfl cl ie hs hc
 .have cl:=fi (fT (k:Int) 10) (by exact(B2 Q1 :));have hd:A.qN j k=none:=if_neg Q1;rw[hd] at hc hl;rw[hd] at ag;refine⟨Dv .none,Iv k,Dv (bC ((rH j).OZ (A.rI k))),_,_,nz hA hI ag (cy _) (by decide) (by exact aj J3 rfl) (by exact aj J9 rfl),hl.1,hl.2,?_⟩;rcases hj4 with rfl|rfl|rfl|rfl
  all_goals exact run G (CF (n+410)) uT (FL s agv A none none (Iv c) dQ eY (Iv m) fG gf) (S2 ai model) [.o _,.o _,.o _,.o _,.o _,.o _,.o _,.o _,.o _,.o _,.o _,.r _] m6 mq ia mk it it it it mj rfl cl hc
noncomputable abbrev prD(a b:Int):PyData:=.tuple [.int a,.int b]
theorem aaS(n:Nat)(s:Nat->Int)(agv:List PyData)(hA:A.Ok)(dQ eY:Option V)(hI:gV A 1 cs ai model)(h1:ai.length<=4)(h2:model.length<=4):∃RI fG gf eN eO,gV A 1 cs eN eO/\eN.length<=7/\eO.length<=7/\aD G (CF (n+410)) ((iR.drop 16).take 1) (FL s agv A none none none dQ eY) (S2 ai model) =
   .next (FL s agv A none none (Dv (.int (s 11))) dQ RI (Dv (.int (s 12))) fG gf) (S2 eN eO):=by
 obtain⟨Oj,J6,Ol,Fy,XY,i1,l1,m1,e1⟩:=rJ n s agv hA hI (by exact aj h1 rfl) (by exact aj h2 rfl) (s 7) (s 8) dQ eY none none;obtain⟨c27,c29,c30,Bm,XZ,i2,l2,m2,e2⟩:=rJ n s agv hA i1 (by exact fK l1 h1 rfl) (by exact fK m1 h2 rfl) (s 9) (s 10) dQ Oj J6 Ol;obtain⟨d27,d29,d30,Se,Sf,i3,l3,m3,e3⟩:=rJ n s agv hA i2 (by exact B6 l2 l1 h1 rfl) (by exact B6 m2 m1 h2 rfl) (s 11) (s 12) dQ c27 c29 c30;refine⟨d27,d29,d30,Se,Sf,i3,by exact B7 l3 l2 l1 h1 rfl,by exact B7 m3 m2 m1 h2 rfl,?_⟩;have hf:mh (aD G (CF (n+410)) uT) (.tup [(.var 15),(.var 28)]) (FL s agv A none none none dQ eY) (.d (.tuple [prD (s 7) (s 8),prD (s 9) (s 10),prD (s 11) (s 12)])) (S2 ai model) =
   .next (FL s agv A none none (Dv (.int (s 11))) dQ d27 (Dv (.int (s 12))) d29 d30) (S2 Se Sf):=by
  rw[lN];show(aD G (CF (n+410)) uT (FL s agv A none none (Dv (.int (s 7))) dQ eY (Dv (.int (s 8)))) (S2 ai model)).andThen _=_;rw[e1];show(aD G (CF (n+410)) uT (FL s agv A none none (Dv (.int (s 9))) dQ Oj (Dv (.int (s 10))) J6 Ol) (S2 Fy XY)).andThen _=_;rw[e2];show(aD G (CF (n+410)) uT (FL s agv A none none (Dv (.int (s 11))) dQ c27 (Dv (.int (s 12))) c29 c30) (S2 Bm XZ)).andThen _=_;rw[e3];rfl
 exact run G (CF (n+410)) ((iR.drop 16).take 1) (FL s agv A none none none dQ eY) (S2 ai model) [.x _] hf
def uU:List S:=[.ite (.and [(.cmp .gt (.bin .mod (.var 14) (Qi 10)) (Qi 6)),(.cmp .rT (.call 40 [(.var 32),(.var 25),(.var 33),(.var 28)]) (.con .none))]) [.assign (.var 34) (.var 28)] []]
theorem BW(n:Nat)(s:Nat->Int)(agv:List PyData)(hA:A.Ok)(hL:L<=4)(hI:gV A L cs ai model)(k:K2)(b i j m:Int)(jD fU dQ eY fG gf jE:Option V):∃j',aD G (CF (n+410)) uU (FL s agv A jD (Iv b) fU dQ eY (Iv m) fG gf jE (Dv (.str (st k.i))) (Iv i) (Iv j)) (S2 ai model) =
   .next (FL s agv A jD (Iv b) fU dQ eY (Iv m) fG gf jE (Dv (.str (st k.i))) (Iv i) (Dv (.int j'))) (S2 ai model):=by
 obtain⟨q,hq,eq⟩:=c8 b 10 (by decide);have mq:=iz (by decide) eq;by_cases h6:q > 6
 .have cg:=jX (ahj (q:Int) 6) (by exact(s7 h6 :));have hc:=rG hA n hL hI k i m;cases hm:nu k model i m with
  |none=>
   rw[hm] at hc;exact⟨j,run G (CF (n+410)) uU (FL s agv A jD (Iv b) fU dQ eY (Iv m) fG gf jE (Dv (.str (st k.i))) (Iv i) (Iv j)) (S2 ai model) [.o _,.o _,.r _] mq cg hc⟩
  |some t=>
   rw[hm] at hc;exact⟨m,run G (CF (n+410)) uU (FL s agv A jD (Iv b) fU dQ eY (Iv m) fG gf jE (Dv (.str (st k.i))) (Iv i) (Iv j)) (S2 ai model) [.o _,.o _,.r _] mq cg hc⟩
 .have cg:=fi (ahj (q:Int) 6) (by exact(B2 h6 :));exact⟨j,run G (CF (n+410)) uU (FL s agv A jD (Iv b) fU dQ eY (Iv m) fG gf jE (Dv (.str (st k.i))) (Iv i) (Iv j)) (S2 ai model) [.o _,.o _] mq cg⟩
theorem Av(n:Nat)(s:Nat->Int)(agv:List PyData)(hA:A.Ok)(hL:L<=4)(hI:gV A L cs ai model)(k:K2)(b i:Int)(jD fU dQ eY fG gf jE:Option V):∀(items:List Nat) (iW:Option V) (j:Int),∃JH j',bl (aD G (CF (n+410)) uU) (.var 28) (items.map λ(i:Nat)=>.int (0+1 * i)) (FL s agv A jD (Iv b) fU dQ eY iW fG gf jE (Dv (.str (st k.i))) (Iv i) (Iv j)) (S2 ai model) =
   .next (FL s agv A jD (Iv b) fU dQ eY JH fG gf jE (Dv (.str (st k.i))) (Iv i) (Dv (.int j'))) (S2 ai model):=by
 intro items;induction items with
 |nil=>intro iW j;exact⟨iW,j,rfl⟩
 |cons x items ih=>
  intro iW j;obtain⟨j1,h1⟩:=BW n s agv hA hL hI k b i j (0+1 * (x:Int)) jD fU dQ eY fG gf jE;obtain⟨JI,j2,h2⟩:=ih (Dv (.int (0+1 * (x:Int)))) j1;refine⟨JI,j2,?_⟩;show(aD G (CF (n+410)) uU (FL s agv A jD (Iv b) fU dQ eY (Dv (.int (0+1 * (x:Int)))) fG gf jE (Dv (.str (st k.i))) (Iv i) (Iv j)) (S2 ai model)).andThen _=_;rw[h1];exact h2
noncomputable def yh:Nat->K2
 |0=>.trans
 |1=>.comb
 |2=>.eqmp
 |_=>.antisym
theorem RJ(h:r<5):dD (.tuple [.str (st 15),.str (st 7),.str (st 14),.str (st 13),.str (st 13)]) (.int r)=some (.str (st (yh r).i)):=by
 revert h;revert r;exact @AF _ _ (aB rfl (aB rfl (aB rfl (aB rfl (aB rfl iH)))))
theorem rK(h:model.length<=100):ou gr (.loc 1) (S2 ai model)=.ok (.d (.int model.length)) (S2 ai model):=by
 rw[Br gr (n:=1) (xs:=model.map iB) rfl,agH _ (by simp only[lim,bR];exact aj h rfl),bR];rfl
def wL:List S:=[.assign (.var 32) (.idx (.tup [(Qs 15),(Qs 7),(Qs 14),(Qs 13),(Qs 13)]) (.bin .mod (.var 31) (Qi 5))),.assign (.tup [(.var 33),(.var 34)]) (.tup [(.bin .sub (.len (.var 25)) (.bin .mod (.var 13) (Qi 6))),(.bin .sub (.len (.var 25)) (.bin .mod (.var 14) (Qi 10)))]),.tq 28 [(.len (.var 25))] [.ite (.and [(.cmp .gt (.bin .mod (.var 14) (Qi 10)) (Qi 6)),(.cmp .rT (.call 40 [(.var 32),(.var 25),(.var 33),(.var 28)]) (.con .none))]) [.assign (.var 34) (.var 28)] []],.ite (.call 44 [(.var 24),(.var 25),(.tup [(.var 32),(.var 33),(.var 34)]),(.call 40 [(.var 32),(.var 25),(.var 33),(.var 34)])]) [.ret (.con (.bool false))] []]
theorem rL(n:Nat)(s:Nat->Int)(agv:List PyData)(hA:A.Ok)(hL:L<=3)(hI:gV A L cs ai model)(J3:ai.length<=80)(J9:model.length<=80)(r a b:Int)(fU dQ eY iW fG gf l9 nE ma:Option V):∃JH aaT aaU aaV eN eO,gV A (L+1) cs eN eO/\eN.length<=ai.length+1/\eO.length<=model.length+1 /\
   aD G (CF (n+410)) wL (FL s agv A (Iv a) (Iv b) fU dQ eY iW fG gf (Iv r) l9 nE ma) (S2 ai model) =
   .next (FL s agv A (Iv a) (Iv b) fU dQ eY JH fG gf (Iv r) aaT aaU aaV) (S2 eN eO):=by
 obtain⟨q,hq,eq⟩:=c8 r 5 (by decide);obtain⟨x,hx,ex⟩:=c8 a 6 (by decide);obtain⟨y,hy,ey⟩:=c8 b 10 (by decide);haveI mq:=iz (by decide) eq;haveI mx:=iz (by decide) ex;haveI my:=iz (by decide) ey;haveI ik:=RJ hq;haveI hm:=hI.lm;haveI agw:=rK (ai:=ai) hm;haveI sx:=sub_int (model.length:Int) x;haveI sy:=sub_int (model.length:Int) y;obtain⟨JI,j,hj⟩:=Av n s agv hA (by exact aj hL rfl:L<=4) hI (yh q) b ((model.length:Int) - x) (Iv a) fU dQ eY fG gf (Iv r) (List.range model.length) iW ((model.length:Int) - y);have hf:zI (aD G (CF (n+410)) uU) 28 (FL s agv A (Iv a) (Iv b) fU dQ eY iW fG gf (Iv r) (Dv (.str (st (yh q).i))) (Dv (.int ((model.length:Int) - x))) (Dv (.int ((model.length:Int) - y)))) [.d (.int model.length)] (S2 ai model) =
   .next (FL s agv A (Iv a) (Iv b) fU dQ eY JI fG gf (Iv r) (Dv (.str (st (yh q).i))) (Dv (.int ((model.length:Int) - x))) (Iv j)) (S2 ai model):=by
  haveI hr:iO [.int (model.length:Int)]=some ((List.range model.length).map λ(i:Nat)=>.int (0+1 * i)):=by
   show(if -1000<=(model.length:Int)/\(model.length:Int)<=1000 then _ else _)=_;rw[if_pos ⟨by lia,by exact Int.ofNat_le.mpr (aj hm rfl)⟩,Int.toNat_natCast]
  show(Res.of _ (iO [.int (model.length:Int)])).then _=_;refine bO (hr ..) ?_;exact hj
 haveI ag:=wJ hA hI (yh q) ((model.length:Int) - x) j;haveI hl:=uS (x:=.two (yh q) ((model.length:Int) - x) j) (due:=nu (yh q) model ((model.length:Int) - x) j) (cy ai.length) (cy model.length);haveI hc:=rG hA n (by exact aj hL rfl:L<=4) hI (yh q) ((model.length:Int) - x) j;haveI ha:=qM hA n hI ag;refine⟨JI,Dv (.str (st (yh q).i)),Dv (.int ((model.length:Int) - x)),Iv j,_,_,nz hA hI ag (by exact kF) (by exact d9 hL rfl) (by exact aj J3 rfl) (by exact aj J9 rfl),hl.1,hl.2,?_⟩;exact run G (CF (n+410)) wL (FL s agv A (Iv a) (Iv b) fU dQ eY iW fG gf (Iv r) l9 nE ma) (S2 ai model)
  [.o _,.o _,.r _,.o _,.o _,.r _,.o _,.o _,.r _,.x _,.r _,.r _] mq ik agw mx sx agw my sy agw hf hc ha
noncomputable abbrev trD(a b c:Int):PyData:=.tuple [.int a,.int b,.int c]
theorem aaX(n:Nat)(s:Nat->Int)(agv:List PyData)(hA:A.Ok)(fU dQ eY iW fG gf:Option V)(hI:gV A 1 cs ai model)(h1:ai.length<=7)(h2:model.length<=7):∃jD nB JH jE l9 nE ma eN eO,gV A 4 cs eN eO/\eN.length<=10/\eO.length<=10/\aD G (CF (n+410)) ((iR.drop 17).take 1) (FL s agv A none none fU dQ eY iW fG gf) (S2 ai model) =
   .next (FL s agv A jD nB fU dQ eY JH fG gf jE l9 nE ma) (S2 eN eO):=by
 obtain⟨V1,V2,V3,R8,Fy,XY,i1,l1,m1,e1⟩:=rL n s agv hA (by decide:1<=3) hI (by exact aj h1 rfl) (by exact aj h2 rfl) (s 13) (s 14) (s 15) fU dQ eY iW fG gf none none none;obtain⟨JI,Sg,X0,Sh,Bm,XZ,i2,l2,m2,e2⟩:=rL n s agv hA (by decide:2<=3) i1 (by exact fK l1 h1 rfl) (by exact fK m1 h2 rfl) (s 16) (s 17) (s 18) fU dQ eY V1 fG gf V2 V3 R8;obtain⟨d28,d32,d33,d34,Se,Sf,i3,l3,m3,e3⟩:=rL n s agv hA (by decide:3<=3) i2 (by exact B6 l2 l1 h1 rfl) (by exact B6 m2 m1 h2 rfl) (s 19) (s 20) (s 21) fU dQ eY JI fG gf Sg X0 Sh;refine⟨Dv (.int (s 20)),Dv (.int (s 21)),d28,Dv (.int (s 19)),d32,d33,d34,Se,Sf,i3,by exact B7 l3 l2 l1 h1 rfl,by exact B7 m3 m2 m1 h2 rfl,?_⟩;have hf:mh (aD G (CF (n+410)) wL) (.tup [(.var 31),(.var 13),(.var 14)]) (FL s agv A none none fU dQ eY iW fG gf) (.d (.tuple [trD (s 13) (s 14) (s 15),trD (s 16) (s 17) (s 18),trD (s 19) (s 20) (s 21)])) (S2 ai model) =
   .next (FL s agv A (Dv (.int (s 20))) (Dv (.int (s 21))) fU dQ eY d28 fG gf (Dv (.int (s 19))) d32 d33 d34) (S2 Se Sf):=by
  rw[lN];show(aD G (CF (n+410)) wL (FL s agv A (Dv (.int (s 14))) (Dv (.int (s 15))) fU dQ eY iW fG gf (Dv (.int (s 13)))) (S2 ai model)).andThen _=_;rw[e1];show(aD G (CF (n+410)) wL (FL s agv A (Dv (.int (s 17))) (Dv (.int (s 18))) fU dQ eY V1 fG gf (Dv (.int (s 16))) V2 V3 R8) (S2 Fy XY)).andThen _=_;rw[e2];show(aD G (CF (n+410)) wL (FL s agv A (Dv (.int (s 20))) (Dv (.int (s 21))) fU dQ eY JI fG gf (Dv (.int (s 19))) Sg X0 Sh) (S2 Bm XZ)).andThen _=_;rw[e3];rfl
 exact run G (CF (n+410)) ((iR.drop 17).take 1) (FL s agv A none none fU dQ eY iW fG gf) (S2 ai model) [.x _] hf
noncomputable def Xb:Nat->Fk
 |0=>.inst
 |1=>.insttype
 |2=>.abs
 |3=>.inst
 |4=>.insttype
 |5=>.abs
 |_=>.sym
theorem RK(h:q<7):dD (.tuple [.str (st 17),.str (st 18),.str (st 6),.str (st 17),.str (st 18),.str (st 6),.str (st 32)]) (.int q)=some (.str (st (Xb q).i)):=by
 revert h;revert q;exact @AF _ _ (aB rfl (aB rfl (aB rfl (aB rfl (aB rfl (aB rfl (aB rfl iH)))))))
theorem DG(h:u<7):d0 .mem (eW (bb u)) (.list [eW (bb 0),eW (bb 1),eW (bb 2),eW (bb 3),eW (bb 4)])=some (.bool (Nat.blt u 5)):=by
 revert h;revert u;exact @AF _ _ (aB rfl (aB rfl (aB rfl (aB rfl (aB rfl (aB rfl (aB rfl iH)))))))
theorem qO:pR 0 5 (.list (Ra.map eW))=some (.list [eW (bb 0),eW (bb 1),eW (bb 2),eW (bb 3),eW (bb 4)]):=rfl
def uV:Option Th->PyData
 |some t=>dP t
 |none=>.none
theorem JJ(σ:ae)(o:Option Th):OQ σ o=.ok (.d (uV o)) σ:=by induction o<;>rfl
theorem RL{C:aG}{fr:agq}(hm:model.length<=100)(i:Int)(h33:evE G C (.var 33) fr (S2 ai model)=.ok (.d (.int i)) (S2 ai model))(h25:evE G C (.var 25) fr (S2 ai model)=.ok (.loc 1) (S2 ai model)):evE G C (.Ga (Qi 0) (.var 33) (.len (.var 25))) fr (S2 ai model)=.ok (.d (.bool (decide (0<=i)&&decide (i<model.length)))) (S2 ai model):=by
 have hl:evE G C (.len (.var 25)) fr (S2 ai model)=.ok (.d (.int model.length)) (S2 ai model):=by rw[Wg,h25];exact rK hm
 rw[wV,Ou,Res.ax,h33,Res.ax];show(if decide (0<=i)=true then(evE G C (.len (.var 25)) fr (S2 ai model)).bind _ else _)=_;by_cases h0:0<=i
 .rw[decide_eq_true h0,if_pos rfl,hl];rfl
 .rw[decide_eq_false h0];rfl
theorem ME{i:Int}(h:(decide (0<=i)&&decide (i<model.length))=true):∃t,agW model i=some t/\model[i.toNat]?=some t:=by
 rw[dN,decide_eq_true_iff,decide_eq_true_iff] at h;exact xQ (by exact Np h) (by exact Nq h)
theorem JK{i:Int}(h:(decide (0<=i)&&decide (i<model.length))=false):agW model i=none:=by
 unfold agW;rw[if_pos];rw[Bool.and_eq_false_iff,decide_eq_false_iff_not,decide_eq_false_iff_not] at h;exact TM h
theorem aaY(n:Nat)(s:Nat->Int)(agv:List PyData)(hA:A.Ok)(jD nB fU dQ eY iW fG gf jE l9 nE ma:Option V)(hI:gV A 4 cs ai model):∃kd i,aD G (CF (n+410)) ((iR.drop 18).take 4) (FL s agv A jD nB fU dQ eY iW fG gf jE l9 nE ma) (S2 ai model) =
   .next (FL s agv A jD nB fU dQ (Dv (uV ((agW model i).bind (A.pI kd)))) iW fG (Dv (bC (A.eM kd i))) jE l9 (Iv i) ma (Dv (.str (st kd.i)))) (S2 ai model):=by
 obtain⟨q,hq,eq⟩:=c8 (s 22) 7 (by decide);obtain⟨x,hx,ex⟩:=c8 (s 23) 6 (by decide);have mq:=iz (by decide) eq;have mx:=iz (by decide) ex;have ik:=RK hq;have hm:=hI.lm;have agw:=rK (ai:=ai) hm;have sx:=sub_int (model.length:Int) x;generalize Xb q=kd at ik;generalize hi:(model.length:Int) - x=i at sx;refine⟨kd,i,?_⟩;have hb:=RL (C:=CF (n+410)) (fr:=FL s agv A jD nB fU dQ (Dv .none) iW fG (Dv (bC (A.eM kd i))) jE l9 (Iv i) ma (Dv (.str (st kd.i))) none none) (ai:=ai) hm i rfl rfl;cases hr:decide (0<=i)&&decide (i<model.length) with
 |false=>
  rw[hr] at hb;rw[JK hr];induction kd with
  |inst=>exact run G (CF (n+410)) ((iR.drop 18).take 4) (FL s agv A jD nB fU dQ eY iW fG gf jE l9 nE ma) (S2 ai model) [.o _,.o _,.r _,.o _,.o _,.r _] mq ik agw mx sx hb
  |insttype=>exact run G (CF (n+410)) ((iR.drop 18).take 4) (FL s agv A jD nB fU dQ eY iW fG gf jE l9 nE ma) (S2 ai model) [.o _,.o _,.r _,.o _,.o _,.r _] mq ik agw mx sx hb
  |abs=>exact run G (CF (n+410)) ((iR.drop 18).take 4) (FL s agv A jD nB fU dQ eY iW fG gf jE l9 nE ma) (S2 ai model) [.o _,.o _,.r _,.o _,.o _,.r _] mq ik agw mx sx hb
  |sym=>exact run G (CF (n+410)) ((iR.drop 18).take 4) (FL s agv A jD nB fU dQ eY iW fG gf jE l9 nE ma) (S2 ai model) [.o _,.o _,.r _,.o _,.o _,.r _] mq ik agw mx sx hb
 |true=>
  rw[hr] at hb;obtain⟨t,ht,it⟩:=ME hr;rw[dN,decide_eq_true_iff,decide_eq_true_iff] at hr;have hx:=BF (σ:=S2 ai model) (k:=1) (ms:=model) rfl (by exact Np hr:¬i<0) (by exact aj hm rfl) (by exact Nq hr) it;have hf:=BH (n+406) (S2 ai model) kd (vL A.e) t ((hI.ok t (uQ ht)).f hA (by decide)) (ao (DE A.e).1 (by decide));rw[JJ] at hf;rw[ht];induction kd with
  |inst=>
   have mu:=DG hA.u;have mw:=DG hA.w;show _=XR.next (FL s agv A jD nB fU dQ (Dv (uV (if A.good=true then some (rx 1 t) else none))) iW fG (Dv (bC (A.eM .inst i))) jE l9 (Iv i) ma (Dv (.str (st 17)))) (S2 ai model)
   unfold dq.good;cases hu:Nat.blt A.u 5 with
   |false=>
    rw[hu] at mu;exact run G (CF (n+410)) ((iR.drop 18).take 4) (FL s agv A jD nB fU dQ eY iW fG gf jE l9 nE ma) (S2 ai model) [.o _,.o _,.r _,.o _,.o _,.r _,.o _,.o _] mq ik agw mx sx hb qO mu
   |true=>
    rw[hu] at mu;cases hw:Nat.blt A.w 5 with
    |false=>
     rw[hw] at mw;exact run G (CF (n+410)) ((iR.drop 18).take 4) (FL s agv A jD nB fU dQ eY iW fG gf jE l9 nE ma) (S2 ai model) [.o _,.o _,.r _,.o _,.o _,.r _,.o _,.o _,.o _,.o _] mq ik agw mx sx hb qO mu qO mw
    |true=>
     rw[hw] at mw;exact run G (CF (n+410)) ((iR.drop 18).take 4) (FL s agv A jD nB fU dQ eY iW fG gf jE l9 nE ma) (S2 ai model) [.o _,.o _,.r _,.o _,.o _,.r _,.o _,.o _,.o _,.o _,.r _,.r _] mq ik agw mx sx hb qO mu qO mw hx hf
  |insttype=>exact run G (CF (n+410)) ((iR.drop 18).take 4) (FL s agv A jD nB fU dQ eY iW fG gf jE l9 nE ma) (S2 ai model) [.o _,.o _,.r _,.o _,.o _,.r _,.r _,.r _] mq ik agw mx sx hb hx hf
  |abs=>exact run G (CF (n+410)) ((iR.drop 18).take 4) (FL s agv A jD nB fU dQ eY iW fG gf jE l9 nE ma) (S2 ai model) [.o _,.o _,.r _,.o _,.o _,.r _,.r _,.r _] mq ik agw mx sx hb hx hf
  |sym=>exact run G (CF (n+410)) ((iR.drop 18).take 4) (FL s agv A jD nB fU dQ eY iW fG gf jE l9 nE ma) (S2 ai model) [.o _,.o _,.r _,.o _,.o _,.r _,.r _,.r _] mq ik agw mx sx hb hx hf
end
abbrev S3(ai:List mi)(model:List Tt)(want:List Th):ae:=[.lst (ai.map bC),.lst (model.map iB),.lst (want.map dP)]
section
variable {A:dq}{cs:iu}{ai:List mi}{model:List Tt}
def JL:List S:=[.app 36 (.call 39 [(.var 37),(Qi 0)])]
theorem Fl(n:Nat)(s:Nat->Int)(agv:List PyData)(hA:A.Ok)(jD nB fU dQ eY iW fG gf jE l9 nE ma yp:Option V)(ai:List mi)(model:List Tt)(want:List Th){t:Tt}(ht:gU A 4 t)(hw:want.length<=200):aD G (CF (n+410)) JL (FL s agv A jD nB fU dQ eY iW fG gf jE l9 nE ma yp (some (.loc 2)) (Dv (iB t))) (S3 ai model want) =
   .next (FL s agv A jD nB fU dQ eY iW fG gf jE l9 nE ma yp (some (.loc 2)) (Dv (iB t))) (S3 ai model (want++[c9 t])):=by
 have hn:=ht.n hA (by decide);have hc:=lT (n+408) (S3 ai model want) t 0 (by decide) hn.hs (by have:=hn.len;exact aj this rfl);have e0:(⟨nt 0 t,(t.c.w 0).tm⟩:Th)=c9 t:=by rw[O0 ht];rfl
 rw[e0] at hc;have he:=gR G (CF (n+410)) (.call 39 [(.var 37),(Qi 0)]) (FL s agv A jD nB fU dQ eY iW fG gf jE l9 nE ma yp (some (.loc 2)) (Dv (iB t))) (S3 ai model want) [.r _] hc;have hx:exS G (CF (n+410)) (.app 36 (.call 39 [(.var 37),(Qi 0)])) (FL s agv A jD nB fU dQ eY iW fG gf jE l9 nE ma yp (some (.loc 2)) (Dv (iB t))) (S3 ai model want) =
   .next (FL s agv A jD nB fU dQ eY iW fG gf jE l9 nE ma yp (some (.loc 2)) (Dv (iB t))) (S3 ai model (want++[c9 t])):=by
  rw[zM (n:=2) (ys:=want.map dP) _ rfl rfl,he,Wj,qr (ys:=want.map dP) _ rfl (by simp only[lim,bR];exact aj hw rfl)];show XR.next _ [_,_,agS.lst (want.map dP++[dP (c9 t)])]=XR.next _ [_,_,agS.lst ((want++[c9 t]).map dP)]
  rw[List.map_append];rfl
 exact run G (CF (n+410)) JL (FL s agv A jD nB fU dQ eY iW fG gf jE l9 nE ma yp (some (.loc 2)) (Dv (iB t))) (S3 ai model want) [.x _] hx
theorem aaZ(n:Nat)(s:Nat->Int)(agv:List PyData)(hA:A.Ok)(jD nB fU dQ eY iW fG gf jE l9 nE ma yp:Option V)(hI:gV A 4 cs ai model):∃RG,aD G (CF (n+410)) ((iR.drop 22).take 2) (FL s agv A jD nB fU dQ eY iW fG gf jE l9 nE ma yp) (S2 ai model) =
   .next (FL s agv A jD nB fU dQ eY iW fG gf jE l9 nE ma yp (some (.loc 2)) RG) (S3 ai model (model.map c9)):=by
 have J9:=hI.lm;have iM:=nc (body:=aD G (CF (n+410)) JL) (t:=.var 37) iB
  (λ a:List Th×Option V=>FL s agv A jD nB fU dQ eY iW fG gf jE l9 nE ma yp (some (.loc 2)) a.2) (λ a=>S3 ai model a.1) (λ a t=>(a.1++[c9 t],Dv (iB t)))
  (λ a r=>(∀t∈r,t∈model)/\a.1.length+r.length<=200) (pv:=.loc 1) (items:=model) (a:=([],none)) (.loc rfl) ?_ ?_ ⟨λ t h=>h,by show 0+model.length<=200;exact ao (bV (Nat.zero_add _)) (aj J9 rfl)⟩
 .have key:∀(l:List Tt) (a:List Th×Option V),(l.foldl (λ(a:List Th×Option V) t=>(a.1++[c9 t],some (V.d (iB t)))) a).1=a.1++l.map c9:=by
   intro l;induction l with
   |nil=>intro a;simp
   |cons t l ih=>intro a;rw[List.foldl_cons,ih];simp
  dsimp only at iM;rw[key,List.nil_append] at iM;exact⟨_,run G (CF (n+410)) ((iR.drop 22).take 2) (FL s agv A jD nB fU dQ eY iW fG gf jE l9 nE ma yp) (S2 ai model) [.x _] iM⟩
 .intro k all h e b r _;cases e;exact h
 .rintro⟨w,o⟩ t r ⟨h1,h2⟩;dsimp only at h2;rw[List.length_cons] at h2;refine⟨_,rfl,Fl n s agv hA jD nB fU dQ eY iW fG gf jE l9 nE ma yp ai model w (hI.ok t (h1 t dC)) (by exact eF h2 rfl),λ q hq=>h1 q (d8 _ hq),?_⟩;dsimp only;rw[cO,List.length_singleton];exact mG h2
theorem Aw(n:Nat)(ai:List mi)(model:List Tt)(want:List Th)(hr:ez bS ([],[]) ai=some (want,cs))(hg:ahk ([],[]) ai)(hw:∀th∈want,oh th)(hl:ai.length<=200):CF (n+410) 43 [.loc 0] (S3 ai model want)=.ok (.d (.list (want.map dP))) (S3 ai model want)/\oq (d0 .ne) (.d (.list (want.map dP))) (.loc 2) (S3 ai model want)=.ok (.d (.bool false)) (S3 ai model want):=by
 have ht:=z8 (n+407) (by exact lZ rfl) (S3 ai model want) (.loc 0) ai (by rw[Br gX (n:=0) (xs:=ai.map bC) rfl,pB _ (by simp only[lim,bR];exact aj hl rfl)];rfl) (by exact aj hl rfl) hg;rw[hr] at ht;have hd:(PyData.list (want.map dP)).depth<=1000:=by
  have:=ry (enc:=dP) (D:=70) want λ t h=>Jd (hw t h)
  simp only[pd1];exact d9 this rfl
 have eZ:=ahq (x:=.list (want.map dP)) (by show kr (want.map dP)=true;exact xS Q9 want) hd;refine⟨ht,?_⟩;rw[zH (d0 .ne) _ (n:=2) (xs:=want.map dP) rfl,eZ];rfl
theorem aa0(n:Nat)(s:Nat->Int)(agv:List PyData)(hA:A.Ok)(jD nB fU dQ iW fG jE l9 nE ma yp RG:Option V)(hI:gV A 4 cs ai model)(h1:ai.length<=20)(h2:model.length<=20)(kd:Fk)(i:Int):∃σ,aD G (CF (n+410)) (iR.drop 24) (FL s agv A jD nB fU dQ (Dv (uV ((agW model i).bind (A.pI kd)))) iW fG (Dv (bC (A.eM kd i))) jE l9 nE ma yp (some (.loc 2)) RG) (S3 ai model (model.map c9))=.ret (.d (.bool true)) σ:=by
 have dW:=JF hA hI kd i;have wm:=RF hA kd i;have hmw:∀th∈model.map c9,oh th:=λ th h=>by
  obtain⟨t,ht,e⟩:=gm.mp h;rw[←e];exact(hI.ok t ht).Mt hA (by decide)
 cases hd:(agW model i).bind (A.pI kd) with
 |none=>
  rw[hd] at dW;obtain⟨g1,g2⟩:=Ao hI wm dW;have ha:=uJ (n+406) (by exact lZ rfl) (S3 ai model (model.map c9)) 0 2 ai (A.eM kd i) rfl (by exact aj h1 rfl) g1 g2;obtain⟨t1,t2⟩:=Aw n ai model (model.map c9) hI.run hI.good hmw (by exact aj h1 rfl);exact⟨_,run G (CF (n+410)) (iR.drop 24) (FL s agv A jD nB fU dQ (Dv (uV none)) iW fG (Dv (bC (A.eM kd i))) jE l9 nE ma yp (some (.loc 2)) RG) (S3 ai model (model.map c9)) [.r _,.r _,.r _] ha t1 t2⟩
 |some th=>
  rw[hd] at dW;have xN:oh th:=by
   cases hg:agW model i with
   |none=>rw[hg] at hd;cases hd
   |some t=>rw[hg] at hd;exact JG hA (by decide) (hI.ok t (uQ hg)) kd hd
  have hr:bS (model.map c9,cs) (A.eM kd i)=some (model.map c9++[th],cs):=by
   unfold bS;dsimp only;rw[dW];rfl
  have aa1:ez bS ([],[]) (ai++[A.eM kd i])=some (model.map c9++[th],cs):=by rw[lV,hI.run];exact hr
  have Xc:∀q∈model.map c9++[th],oh q:=λ q hq=>(bX.mp hq).elim (hmw q) λ h=>by rw[fW.mp h];exact xN
  have Xd:ahk ([],[]) (ai++[A.eM kd i]):=nX ai _ _ hI.good wm λ u hu v hv q hq=>by
   rw[hI.run] at hu;cases hu;rw[hr] at hv;cases hv;exact Xc q hq
  have ha:=uK (n+409) (S3 ai model (model.map c9)) 0 2 (by decide) (ai.map bC) ((model.map c9).map dP) [.tuple (th.hs.map ay),ay th.c] (bC (A.eM kd i)) rfl rfl (by rw[bR];exact aj h1 rfl) (by rw[bR,bR];exact aj h2 rfl);have ea:((S3 ai model (model.map c9)).set 0 (.lst (ai.map bC++[bC (A.eM kd i)]))).set 2 (.lst ((model.map c9).map dP++[.tuple [.tuple (th.hs.map ay),ay th.c]]))=S3 (ai++[A.eM kd i]) model (model.map c9++[th]):=by
   show[agS.lst (ai.map bC++[bC (A.eM kd i)]),_,agS.lst ((model.map c9).map dP++[dP th])]=[agS.lst ((ai++[A.eM kd i]).map bC),_,agS.lst ((model.map c9++[th]).map dP)];rw[List.map_append,List.map_append];rfl
  rw[ea] at ha;obtain⟨t1,t2⟩:=Aw n (ai++[A.eM kd i]) model (model.map c9++[th]) aa1 Xd Xc (by rw[cO,List.length_singleton];exact d9 h1 rfl);exact⟨_,run G (CF (n+410)) (iR.drop 24) (FL s agv A jD nB fU dQ (Dv (uV (some th))) iW fG (Dv (bC (A.eM kd i))) jE l9 nE ma yp (some (.loc 2)) RG) (S3 ai model (model.map c9)) [.r _,.r _,.r _] ha t1 t2⟩
theorem Fm:iR=iR.take 5++((iR.drop 5).take 2++((iR.drop 7).take 3++((iR.drop 10).take 4++((iR.drop 14).take 1++((iR.drop 15).take 1++((iR.drop 16).take 1++((iR.drop 17).take 1++((iR.drop 18).take 4++((iR.drop 22).take 2++iR.drop 24))))))))):=rfl
theorem JM(n:Nat)(s:Nat->Int)(agv:List PyData)(hr:agv.length<=100):∃σ,CF (n+411) 45 [.d (J8 s agv)] []=.ok (.d (.bool true)) σ:=by
 obtain⟨n0,h0,e0⟩:=c8 (s 0) 4 (by decide);obtain⟨n2,h2,e2⟩:=c8 (s 2) 4 (by decide);obtain⟨d,hd,ed⟩:=c8 (s 1) 11 (by decide);obtain⟨u,hu,eu⟩:=c8 (s 3) 7 (by decide);obtain⟨w,hw,ew⟩:=c8 (s 4) 7 (by decide);obtain⟨e,he,ee⟩:=c8 (s 5) 4 (by decide);obtain⟨b,hb,eb⟩:=c8 (s 5) 7 (by decide);have hA:(dq.mk n0 n2 d u w e b).Ok:=⟨h0,h2,hd,hu,hw,he,hb⟩;have hO:(dq.mk n0 n2 d u w e b).Of s:=⟨e0,e2,ed,eu,ew,ee,eb⟩;generalize dq.mk n0 n2 d u w e b=A at hA hO;have p1:=aaB n s agv hr A hA hO [];have p2:=aaC n s agv A hA hO [];have p3:=aaD n s agv A hA hO [];have p4:=aaG n s agv A hA hO;obtain⟨cs,Fy,XY,i1,l1,m1,g1⟩:=aaN n s agv hA;obtain⟨Bm,XZ,i2,l2,m2,g2⟩:=aaO n s agv hA (Dv (.int A.d)) (Dv (oJ A.gT)) i1 l1 m1;obtain⟨Oj,J6,Ol,Se,Sf,i3,l3,m3,g3⟩:=aaS n s agv hA (Dv (.int A.d)) (Dv (oJ A.gT)) i2 l2 m2;obtain⟨c13,c14,JI,c31,Sg,X0,Sh,st4,mo4,i4,l4,m4,g4⟩:=aaX n s agv hA (Dv (.int (s 11))) (Dv (.int A.d)) Oj (Dv (.int (s 12))) J6 Ol i3 l3 m3;obtain⟨kd,i,g5⟩:=aaY n s agv hA c13 c14 (Dv (.int (s 11))) (Dv (.int A.d)) Oj JI J6 Ol c31 Sg X0 Sh i4;obtain⟨c37,g6⟩:=aaZ n s agv hA c13 c14 (Dv (.int (s 11))) (Dv (.int A.d)) (Dv (uV ((agW mo4 i).bind (A.pI kd)))) JI J6 (Dv (bC (A.eM kd i))) c31 Sg (Iv i) Sh (Dv (.str (st kd.i))) i4;obtain⟨σ,g7⟩:=aa0 n s agv hA c13 c14 (Dv (.int (s 11))) (Dv (.int A.d)) JI J6 c31 Sg (Iv i) Sh (Dv (.str (st kd.i))) c37 i4 (by exact aj l4 rfl) (by exact aj m4 rfl) kd i;have u9:aD G (CF (n+410)) iR (Dv (J8 s agv)::List.replicate 37 none) []=.ret (.d (.bool true)) σ:=by
  rw[Fm,fP p1,fP p2,fP p3,fP p4,fP g1,fP g2,fP g3,fP g4,fP g5,fP g6];exact g7
 refine⟨σ.take 0,?_⟩;show agO 0 (aD G (CF (n+410)) iR (Dv (J8 s agv)::List.replicate 37 none) [])=_;rw[u9];rfl
theorem Fo(n:Nat)(xs:List PyData)(h:xs.length<24):CF (n+411) 45 [.d (.list xs)] []=.ok (.d (.bool true)) []:=by
 have hl:=agH xs (by simp only[lim];exact aj (Nat.le_of_lt h) rfl);have hc:=jX (fT (xs.length:Int) 24) (by exact(s7 h :));exact jS (run G (CF (n+410)) iR [Dv (.list xs),none,none,none,none,none,none,none,none,none,none,none,none,none,none,none,none,none,none,none,none,none,none,none,none,none,none,none,none,none,none,none,none,none,none,none,none,none] ([]:ae) [.o _,.o _] hl hc)
noncomputable def O1:Nat->(Nat->Int)->List PyData->List PyData
 |0,_,r=>r
 |n+1,s,r=>.int (s 0)::O1 n (λ i=>s (i+1)) r
theorem JN:∀(n:Nat) (xs:List Int),n<=xs.length->xs.map PyData.int=O1 n (λ i=>xs.getD i 0) ((xs.drop n).map .int)
 |0,xs,_=>rfl
 |n+1,x::xs,h=>congrArg (PyData.int x::·) (JN n xs (mD h))
 |n+1,[],h=>absurd h (Nat.not_succ_le_zero n)
theorem RM(xs:List Int)(h:24<=xs.length)(h63:xs.length<=63):∃s agv,PyData.list (xs.map .int)=J8 s agv/\agv.length<=100:=
 ⟨λ i=>xs.getD i 0,(xs.drop 24).map .int,congrArg PyData.list (JN 24 xs h),by rw[bR,kC];exact ao (Nat.sub_le _ _) (ao h63 (by decide))⟩
theorem JO(l:List Int)(hl:l.length<=63):∃σ,pU FT G 690 45 [.d (.list (l.map .int))] []=.ok (.d (.bool true)) σ:=by
 by_cases h:l.length<24
 .exact⟨[],Fo 279 _ (by rw[bR];exact h)⟩
 .obtain⟨s,agv,e,hr⟩:=RM l (by exact jI h) hl;rw[e];exact JM 279 s agv hr
end
end Internal
namespace Internal
open PySem PyProof.Rows PySem.W
theorem O2{K:Frag}{h:Heap}{Φ:Fz}(X:K.In h)(l6:∀a o,h.get? a=some o->Φ a=some o):∀f,(∀v d,X6 K f v d=true->RD Φ v d)/\(∀vs xs,F9 K f vs xs=true->dF Φ vs xs)
 |0=>⟨λ v d h=>Bool.noConfusion h,λ vs xs h=>Bool.noConfusion h⟩
 |f+1=>by
  obtain⟨ih1,ih2⟩:=O2 X l6 f;refine⟨λ v d hb=>?_,λ vs xs hb=>?_⟩
  .cases d with
   |none=>obtain⟨_,rfl,_⟩:=aw hb;exact .none
   |bool b=>obtain⟨c,rfl,e⟩:=aw hb;rw[bE e];exact .bool c
   |int i=>obtain⟨j,⟨t,rfl⟩,e⟩:=aw hb;rw[bE e];exact .int j t
   |str x=>
    obtain⟨y,⟨t,rfl⟩,e⟩:=aw hb;obtain⟨e,hs⟩:=cf e;rw[bE e] at hs ⊢;exact .str y t hs
   |list xs=>cases hb
   |dict fc=>cases hb
   |tuple xs=>
    obtain⟨a,rfl,e⟩:=aw hb;obtain⟨o,ho,e1⟩:=mP e;obtain⟨q,rfl,e2⟩:=aw e1;exact .tuple (l6 a _ (X a _ ho)) (ih2 _ _ e2)
  .cases vs with
   |nil=>cases xs with
    |nil=>exact .nil
    |cons=>cases hb
   |cons v vs=>cases xs with
    |nil=>cases hb
    |cons x xs=>exact .cons (ih1 v x (cf hb).1) (ih2 vs xs (cf hb).2)
section
variable {K:Frag}{loose:List Str}{Xe:ExcName->Option Value}{prog:Program}{w:World}{mb mg:Str->Option Value}{h:Heap}{G:List PyData}{E Q:Value->Shared->Prop}
theorem fV{x:Str}(h:agD K x=true):nsIn K mainGlobals x=some none:=by
 unfold agD at h;split at h
 .assumption
 .cases h
theorem MF{p:Program}{GN FN:List Str}{FT:List FD}(X:K.In h)(T:Top p loose Xe mg mb h)(himp:importsNone p=true)(h1:agD K "len"=true)(h2:agD K "list"=true)(h3:agD K "tuple"=true)(h4:agD K "set"=true)(h5:agD K "zip"=true)(h6:agD K "range"=true)(h7:agD K "ValueError"=true)(hg:AH K GN G=true):agY ⟨prog,w,h,mg,mb,G,GN,FT,FN⟩ where
 g:=T.g
 b:=T.b
 nolimit:=T.nolimit
 sys:=by obtain⟨mm,⟨o,_,_,ho,_⟩,_⟩:=(T.seer himp).mods;exact⟨o,ho⟩
 glob:=by
  intro i x d hx hd;have hm:(x,d)∈GN.zip G:=by
   refine dH (i:=i) ?_;rw[List.getElem?_zip_eq_some];exact⟨hx,hd⟩
  have hb:=fX.mp hg _ hm;unfold Nv at hb;dsimp only at hb;split at hb
  .rename_i v hv;exact⟨v,mg_of X T.g hv,λ Φ l6=>(O2 X l6 40).1 v d hb⟩
  .cases hb
 len:=⟨mg_none_of X T.g (fV h1),(T.builtins _ (by decide)).trans (by boot_fast)⟩
 list:=⟨mg_none_of X T.g (fV h2),(T.builtins _ (by decide)).trans (by boot_fast)⟩
 tuple:=⟨mg_none_of X T.g (fV h3),(T.builtins _ (by decide)).trans (by boot_fast)⟩
 set:=⟨mg_none_of X T.g (fV h4),(T.builtins _ (by decide)).trans (by boot_fast)⟩
 zip:=⟨mg_none_of X T.g (fV h5),(T.builtins _ (by decide)).trans (by boot_fast)⟩
 range:=⟨mg_none_of X T.g (fV h6),(T.builtins _ (by decide)).trans (by boot_fast)⟩
 jm:=⟨mg_none_of X T.g (fV h7),(T.builtins _ (by decide)).trans (by boot_fast)⟩
def Xf(GN FN:List Str)(FT:List FD)(ds:List DefRec):Bool:=(FN.zip FT).all λ p=>ds.any λ d=>d.name==p.1&&VY GN FN p.2 d
theorem MG{p:Program}{GN FN:List Str}{FT:List FD}(T:Top p loose Xe mg mb h)(agw:FN.length=FT.length)(ht:Xf GN FN FT (recsOf p)=true):H8 ⟨prog,w,h,mg,mb,G,GN,FT,FN⟩ (recsOf p) where
 fn:=T.fn
 tab:=by
  intro f name hf;have e7:f<FT.length:=by rw[←agw];exact(gi.mp hf).1
  have hm:(name,FT[f])∈FN.zip FT:=by
   refine dH (i:=f) ?_;rw[List.getElem?_zip_eq_some];exact⟨hf,by simp[e7]⟩
  have hb:=fX.mp ht _ hm;simp only[List.any_eq_true,dN,beq_iff_eq] at hb;obtain⟨d,hd,h1,h2⟩:=hb;exact⟨d,hd,FT[f],h1,by simp[e7],h2⟩
theorem MH{Φ:Fz}:∀{vs:List Value} {l:List Int},IntsAre vs l->dF Φ vs (l.map .int)
 |_,_,h=>by
  induction h with
  |nil=>exact .nil
  |cons=>rename_i ih;exact .cons (.int _ _) ih
theorem finish{aL:Shared}{FN:List Str}{GN:List Str}{FT:List FD}{ds:List DefRec}{fa la:Addr}{vs:List Value}{l:List Int}{f:Nat}{name:Str}(B:agY ⟨prog,w,aL.heap,mg,mb,G,GN,FT,FN⟩)(F:H8 ⟨prog,w,aL.heap,mg,mb,G,GN,FT,FN⟩ ds)(hf:FN[f]?=some name)(hm:mg name=some (.ref fa))(hl:aL.heap.get? la=some (dE vs 0))(hi:IntsAre vs l)(JP:∃σ,pU FT G 690 f [.d (.list (l.map .int))] []=.ok (.d (.bool true)) σ)(hQ:∀h' k,(∀a o,aL.heap.get? a=some o->h'.get? a=some o)->Q (.bool true) { aL with heap:=h',toks:=k}):wpAny (model prog w) callerA (call (.ref fa) [.ref la]) Q E aL:=by
 obtain⟨acJ,JP⟩:=JP;have hc:=zE (W:=⟨prog,w,aL.heap,mg,mb,G,GN,FT,FN⟩) B F 690 f name fa hf hm callerA [] 0 [] (λ a=>aL.heap.get? a) [] aL [.ref la] [.d (.list (l.map .int))] rfl rfl (by decide) (by decide)
  ⟨λ _ _ e=>e,λ _ _ e=>e,rfl,λ n a c h=>by simp at h,List.nodup_nil,λ a h=>nomatch h⟩ (λ env h=>nomatch h) ⟨RD.list (n:=0) hl (MH hi),trivial⟩
 refine hc Q E ?_ ?_ ?_
 .show pU FT G 690 f [.d (.list (l.map .int))] []≠.stuck;rw[JP];intro h;cases h
 .intro v x aM Φ' h' k e I S r;have e':pU FT G 690 f [.d (.list (l.map .int))] []=.ok x aM:=e;rw[JP] at e';cases e';cases r;exact hQ h' k λ a o q=>S.kp.keep a o (λ z=>nomatch z) (λ z=>nomatch z) q
 .intro e aM Φ' h' k q;have e':pU FT G 690 f [.d (.list (l.map .int))] []=.err aM:=q;rw[JP] at e';cases e'
end
end Internal
open PySem PySem.W PyProof.Rows
namespace Internal
theorem MI(h:Heap):(wN h).In h:=by
 intro a o e;have:∀l:List Nat,(l.filterMap λ a=>(h.get? a).map λ o=>(a,o)).lookup a=some o->h.get? a=some o:=by
  intro l;induction l with
  |nil=>intro e;cases e
  |cons b l ih=>
   intro e;rw[List.filterMap_cons] at e;cases hb:h.get? b with
   |none=>rw[hb] at e;exact ih e
   |some o'=>
    rw[hb] at e;simp only[Option.map_some,List.lookup_cons] at e;cases hq:a==b with
    |true=>
     rw[hq] at e;cases e;have:a=b:=by simpa using hq
     rw[this];exact hb
    |false=>rw[hq] at e;exact ih e
 exact this _ e
theorem Ax{K:Frag}(h:tj K=true):((((((agD K "len"=true/\agD K "list"=true)/\agD K "tuple"=true)/\agD K "set"=true)/\agD K "zip"=true)/\agD K "range"=true)/\agD K "ValueError"=true)/\AH K Top.GN Top.G=true:=by
 unfold tj at h;simpa only[dN] using h
def HK:Hook:=⟨Bool,λ s=>tj (wN s.heap),λ _=>true,λ _ h=>∃K:Frag,K.In h/\tj K=true,λ _ s e=>⟨_,MI s.heap,e⟩,λ _ _ _ ⟨K,x,e⟩ k=>⟨K,x.keeps k,e⟩⟩
theorem Ay{o:Option Shared}{α β:Type}{f:Shared->α}{g:Shared->β}{a:α}{b:β}(h1:o.map f=some a)(h2:o.map g=some b):o.map (λ s=>(f s,g s))=some (a,b):=by
 cases o with
 |none=>cases h1
 |some s=>cases h1;cases h2;rfl
theorem Xg:LeftO PP QQ [] XT (Hook.obs HK) (Hook.val HK) 2000:=λ w=>Ay (f:=SN) (Ay (T7 w) (T8 w)) (T6 w)
theorem gF{α:Type}{f:α->Bool}{l:List α}(k:Nat)(h1:(l.take k).all f=true)(h2:(l.drop k).all f=true):l.all f=true:=by
 rw[←List.take_append_drop k l,List.all_append,h1,h2];rfl
abbrev FG(p:Str×FD):Bool:=(recsOf QQ).any λ d=>d.name==p.1&&VY GN FN p.2 d
theorem aa5:((FN.zip FT).take 5).all FG=true:=by kernel_rfl
theorem aa6:(((FN.zip FT).drop 5).take 5).all FG=true:=by kernel_rfl
theorem aa7:(((FN.zip FT).drop 10).take 5).all FG=true:=by kernel_rfl
theorem aa8:(((FN.zip FT).drop 15).take 5).all FG=true:=by kernel_rfl
theorem aa9:(((FN.zip FT).drop 20).take 5).all FG=true:=by kernel_rfl
theorem aba:(((FN.zip FT).drop 25).take 5).all FG=true:=by kernel_rfl
theorem abb:(((FN.zip FT).drop 30).take 4).all FG=true:=by kernel_rfl
theorem abd:(((FN.zip FT).drop 34).take 3).all FG=true:=by kernel_rfl
theorem abe:(((FN.zip FT).drop 37).take 3).all FG=true:=by kernel_rfl
theorem abf:(((FN.zip FT).drop 40).take 3).all FG=true:=by kernel_rfl
theorem Xh:(((FN.zip FT).drop 43).take 2).all FG=true:=by kernel_rfl
theorem Xi:((FN.zip FT).drop 45).all FG=true:=by kernel_rfl
theorem MJ:Xf GN FN FT (recsOf QQ)=true:=by
 refine gF 5 aa5 ?_;refine gF 5 aa6 ?_;rw[List.drop_drop];refine gF 5 aa7 ?_;rw[List.drop_drop];refine gF 5 aa8 ?_;rw[List.drop_drop];refine gF 5 aa9 ?_;rw[List.drop_drop];refine gF 5 aba ?_;rw[List.drop_drop];refine gF 4 abb ?_;rw[List.drop_drop];refine gF 3 abd ?_;rw[List.drop_drop];refine gF 3 abe ?_;rw[List.drop_drop];refine gF 3 abf ?_;rw[List.drop_drop];refine gF 2 Xh ?_;rw[List.drop_drop];exact Xi
end Internal
end
open PySem PySem.W PyProof.Rows
theorem PySem.Challenge.cw_sx_r026_3_holds : PySem.Challenge.rw_sx_r026_3.Holds := by
 w_on
 refine holds_law Internal.T3 λ abg=>?_;refine holds_open (q:=Internal.QQ) (loose:=[]) (Xt:=λ s=>xlAt Internal.QQ [] s&&recOk (RowW.records Internal.LL.row.toRowW) s) (XP:=XL Internal.QQ []) (Yf:=Hook.obs Internal.HK) (Ya:=Hook.val Internal.HK) (YP:=Hook.says Internal.HK) (N:=2000) Internal.Xg (Hook.of Internal.HK) (Hook.keeps Internal.HK) (λ s e=>xl_of s (Bool.and_eq_true_iff.mp e).1) XL.keeps (by rfl) (by rfl) (by rfl) (λ s e=>recFacts_of (Bool.and_eq_true_iff.mp e).2) (by rfl) abg (by kernel_rfl) ⟨rfl,rfl,rfl,rfl,rfl,by decide +kernel⟩ ?hw ?hc;case hw=>w_witness2
 case hc=>
  intro w afY aL mg mb G Y fa o pm cd doc dV kV ho hd hcd hD hmg hg args vals as P6 abh N4 hwl Ep;obtain⟨K,KX,pK⟩:=Y;refine Ground.open G ?_;intro T B D TE TW;clear ho hd hcd hD
  wrow_args P6 abh N4 hwl Ep
  rename_i l od acK hL1 Xr N8 as4 as3 la vs as0 hL ra Xj r0 hI hr0 hc1 hc2;obtain⟨⟨⟨⟨⟨⟨⟨n1,n2⟩,n3⟩,n4⟩,n5⟩,n6⟩,n7⟩,n8⟩:=Internal.Ax pK;have hB:=Internal.MF (prog:=Challenge.rw_sx_r026_3.row.prog) (w:=w) (G:=Internal.G) (GN:=Internal.GN) (FN:=Internal.FN) (FT:=Internal.FT) KX T (by decide +kernel) n1 n2 n3 n4 n5 n6 n7 n8;have hF:=Internal.MG (prog:=Challenge.rw_sx_r026_3.row.prog) (w:=w) (G:=Internal.G) (GN:=Internal.GN) (FN:=Internal.FN) (FT:=Internal.FT) T rfl Internal.MJ;have Xk:aL.heap.get? la=some (Internal.dE vs 0):=by
   cases Xj with
   |list h1 h2=>
    obtain⟨ob,Um,oX,n,hdt⟩:=hL;rw[h1] at Um;cases Um;cases hdt;exact h1
  refine Internal.finish (name:="law") (f:=45) hB hF rfl hmg Xk hI (Internal.JO l (by first|assumption|omega|simp_all)) λ h' k hk=>?_;refine GoodW.toG ⟨.inl ⟨_,.bool true,[],rfl,raisesW_false ?_,.bool true,?_,?_⟩,hk,rfl,hg⟩
  .wrow_none_raised
  .wrow_post
  .intro _;exact⟨List.nodup_nil,λ a h=>nomatch h⟩