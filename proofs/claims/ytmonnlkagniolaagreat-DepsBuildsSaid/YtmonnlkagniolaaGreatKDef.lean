import Derived.Test.YtmonnlkagniolaaGreatKTy
import Derived.Test.YtmonnlkagniolaaGreatPbV
import Derived.Test.YtmonnlkagniolaaGreatPbV
set_option linter.all false
set_option maxRecDepth 100000
namespace Go.Proofs.YtmonnlkagniolaaGreat
open Go Go.Pb Go.RowKit
def qb(x0:List az)(K0:Unit->Bool):Nat->Int->Bool
 |0,x3_=>K0 ()
 |m+1,x3_=>
  if(decide (40 < (((ix x0 x3_).Name).length:Int)))then
   false
  else
  qb x0 K0 m (x3_+1)
def dz(x0:List az):Bool:=
 if(decide (16 < (x0.length:Int)))then
  false
 else
 qb x0 (λ(_:Unit)=>
  true) (Int.toNat ((x0.length:Int)-0)) 0
def qu(x0:bm)(K0:Unit->Bool):Nat->Int->Bool
 |0,x3_=>K0 ()
 |m+1,x3_=>
  if((decide (40 < (((ix x0.Body x3_).Index).length:Int)))||(decide (40 < (((ix x0.Body x3_).Value).length:Int))))then
   false
  else
  qu x0 K0 m (x3_+1)
def yw(x0:bm):Bool:=
 if(((decide (40 < (x0.Name.length:Int)))||(!(dz x0.Params)))||(decide (16 < (x0.Body.length:Int))))then
  false
 else
 qu x0 (λ(_:Unit)=>
  true) (Int.toNat ((x0.Body.length:Int)-0)) 0
def mw(x0:ae)(K0:Unit->Bool):Nat->Int->Bool
 |0,x3_=>K0 ()
 |m+1,x3_=>
  if((decide (40 < (((ix x0.Headers x3_).Name).length:Int)))||(!(dz ((ix x0.Headers x3_).Fields))))then
   false
  else
  mw x0 K0 m (x3_+1)
def my(x0:ae)(K2:Unit->Bool):Nat->Int->Bool
 |0,x4_=>K2 ()
 |m+1,x4_=>
  if(decide (40 < (((ix x0.Registers x4_).Name).length:Int)))then
   false
  else
  my x0 K2 m (x4_+1)
def mu(x0:ae)(K4:Unit->Bool):Nat->Int->Bool
 |0,x5_=>K4 ()
 |m+1,x5_=>
  LET (yw (ix x0.Actions x5_)) λy144=>
  if(!y144)then
   false
  else
  mu x0 K4 m (x5_+1)
def od(x0:ae)(K6:Unit->Bool):Nat->Int->Bool
 |0,x6_=>K6 ()
 |m+1,x6_=>
  if((((decide (40 < (((ix x0.Tables x6_).Name).length:Int)))||(decide (10 < (((ix x0.Tables x6_).Keys).length:Int))))||(decide (24 < (((ix x0.Tables x6_).Actions).length:Int))))||(decide (10 < ((((ix x0.Tables x6_).Default).Args).length:Int))))then
   false
  else
  od x0 K6 m (x6_+1)
def qj(x0:ae)(K8:Unit->Bool):Nat->Int->Bool
 |0,x8_=>K8 ()
 |m+1,x8_=>
  if(((decide (40 < (((ix x0.States x8_).Name).length:Int)))||(decide (8 < (((ix x0.States x8_).Extract).length:Int))))||(decide (16 < (((ix x0.States x8_).Cases).length:Int))))then
   false
  else
  qj x0 K8 m (x8_+1)
def rg(x0:ae):Bool:=
 if((((((((decide (40 < (x0.Name.length:Int)))||(decide (12 < (x0.Headers.length:Int))))||(!(dz x0.Metadata)))||(decide (8 < (x0.Registers.length:Int))))||(decide (20 < (x0.Actions.length:Int))))||(decide (16 < (x0.Tables.length:Int))))||(decide (16 < (x0.States.length:Int))))||(decide (16 < (x0.Deparser.length:Int))))then
  false
 else
 mw x0 (λ(_:Unit)=>
  my x0 (λ(_:Unit)=>
   mu x0 (λ(_:Unit)=>
    od x0 (λ(_:Unit)=>
     qj x0 (λ(_:Unit)=>
      true) (Int.toNat ((x0.States.length:Int)-0)) 0) (Int.toNat ((x0.Tables.length:Int)-0)) 0) (Int.toNat ((x0.Actions.length:Int)-0)) 0) (Int.toNat ((x0.Registers.length:Int)-0)) 0) (Int.toNat ((x0.Headers.length:Int)-0)) 0
def jw(x0:List ba)(K0:Unit->Bool):Nat->Int->Bool
 |0,x3_=>K0 ()
 |m+1,x3_=>
  if((decide (40 < (((ix x0 x3_).Cond).length:Int)))||(decide (10 < (((ix x0 x3_).Guards).length:Int))))then
   false
  else
  jw x0 K0 m (x3_+1)
def ma(x0:List ba):Bool:=
 if(decide (24 < (x0.length:Int)))then
  false
 else
 jw x0 (λ(_:Unit)=>
  true) (Int.toNat ((x0.length:Int)-0)) 0
def wc:Bool:=true
def qv(x0:Int):Bool:=
 (!decide (x0=x0))
def lg(x0:Int)(x1:Int):Int:=
 LET (qv x0) λy101=>
 LET (qv x1) λy102=>
 if y101 then
  if y102 then
   0
  else
  (-1)
 else
 if y102 then
  1
 else
 if(decide (x0 < x1))then
  (-1)
 else
 if(decide (x1 < x0))then
  1
 else
 0
def nu(x0:List Int)(K0:Unit->Int):Nat->Int->Int
 |0,x8_=>K0 ()
 |m+1,x8_=>
  if(!decide ((ix x0 x8_)=0))then
   (ix x0 x8_)
  else
  nu x0 K0 m (x8_+1)
def rt(x0:List Int):Int:=
 nu x0 (λ(_:Unit)=>
  0) (Int.toNat ((x0.length:Int)-0)) 0
def kx(x0:aa)(x1:aa):Int:=
 LET (lg x0.Header x1.Header) λy101=>
 LET (lg x0.Field x1.Field) λy102=>
 LET (rt ([y101,y102]:List Int)) λy104=>
 y104
def er(x0:aa)(x1:aa):Int:=
 LET (lg x0.Header x1.Header) λy101=>
 LET (lg x0.Field x1.Field) λy102=>
 LET (rt ([y101,y102]:List Int)) λy104=>
 y104
def ko(l:List aa):List aa:=l.mergeSort λx y=>!decide (kx y x < 0)
def fg(l:List aa):List aa:=l.mergeSort λx y=>!decide (er y x < 0)
def iw(l:List aa):List aa:=cpt l
def iy(x0:List ah)(K0:(List aa)->(List aa)):Nat->Int->(List aa)->(List aa)
 |0,x8_,zE102=>K0 zE102
 |m+1,x8_,zE102=>
  if(decide (((ix x0 x8_).Op)=2))then
   iy x0 K0 m (x8_+1) (zE102++([({Header:=(ix x0 x8_).N,Field:=(ix x0 x8_).W}:aa)]:List aa))
  else
  iy x0 K0 m (x8_+1) zE102
def ll(x0:List ah):(List aa):=
 iy x0 (λ(zE102_112:List aa)=>
  LET (ko zE102_112) λy113=>
  LET (iw y113) λy115=>
  y115) (Int.toNat ((x0.length:Int)-0)) 0 ([]:List aa)
def dx(l:List Int):List Int:=l.mergeSort λx y=>decide (x<=y)
def jy(l:List Int):List Int:=cpt l
def im(x0:List ah)(K0:(List Int)->(List Int)):Nat->Int->(List Int)->(List Int)
 |0,x8_,zE102=>K0 zE102
 |m+1,x8_,zE102=>
  if(decide (((ix x0 x8_).Op)=4))then
   im x0 K0 m (x8_+1) (zE102++([(ix x0 x8_).N]:List Int))
  else
  im x0 K0 m (x8_+1) zE102
def ki(x0:List ah):(List Int):=
 im x0 (λ(zE102_112:List Int)=>
  LET (dx zE102_112) λy113=>
  LET (jy y113) λy115=>
  y115) (Int.toNat ((x0.length:Int)-0)) 0 ([]:List Int)
def fu(x0:Int)(c0:ak):ak:=
 if(decide (0<=x0))then
  ({p:=c0.p,cells:=(c0.cells++([x0]:List Int))}:ak)
 else
 ({p:=c0.p,cells:=c0.cells}:ak)
def kr(x0:ae)(K0:(List Int)->(List Int)):Nat->Int->(List Int)->(List Int)
 |0,x19_,zE108=>K0 zE108
 |m+1,x19_,zE108=>
  kr x0 K0 m (x19_+1) (zE108.set (0:Int).toNat (wr ((ix zE108 (0:Int))+(((ix x0.Headers x19_).Fields).length:Int))))
def mi(x0:ae):(List Int):=
 kr x0 (λ(zE108_123:List Int)=>
  zE108_123) (Int.toNat ((x0.Headers.length:Int)-0)) 0 ([0,(x0.Headers.length:Int),(x0.Metadata.length:Int),(x0.Registers.length:Int)]:List Int)
def lk(x1:Int)(y101:(List Int))(K0:Int->Int):Nat->Int->Int->Int
 |0,x5_,x10_=>K0 x5_
 |m+1,x5_,x10_=>
  if(decide (x10_ < x1))then
   lk x1 y101 K0 m (wr (x5_+(ix y101 x10_))) (x10_+1)
  else
  lk x1 y101 K0 m x5_ (x10_+1)
def oo(x0:ae)(x1:Int):Int:=
 LET (mi x0) λy101=>
 lk x1 y101 (λ(x5_107:Int)=>
  x5_107) (Int.toNat (4-0)) 0 0
def qe(x0:ae)(x1:Int)(x2:Int):Int:=
 if((decide (x2 < 0))||(decide ((ix (mi x0) x1)<=x2)))then
  (-1)
 else
 LET (oo x0 x1) λy106=>
 (wr (y106+x2))
def je(x0:ae)(x1:aa)(K0:Int->Int):Nat->Int->Int->Int
 |0,x5_,x52_=>K0 x5_
 |m+1,x5_,x52_=>
  je x0 x1 K0 m (wr (x5_+(((ix (sub x0.Headers 0 x1.Header) x52_).Fields).length:Int))) (x52_+1)
def jc(x0:ae)(x1:aa):Int:=
 if(decide (x1.Header=(-1)))then
  LET (qe x0 2 x1.Field) λy102=>
  y102
 else
 if((((decide (x1.Header < 0))||(decide ((x0.Headers.length:Int)<=x1.Header)))||(decide (x1.Field < 0)))||(decide ((((ix x0.Headers x1.Header).Fields).length:Int)<=x1.Field)))then
  (-1)
 else
 je x0 x1 (λ(x5_120:Int)=>
  x5_120) (Int.toNat (((sub x0.Headers 0 x1.Header).length:Int)-0)) x1.Field 0
def js(x0:ae)(x1:Int):Int:=
 LET (qe x0 1 x1) λy101=>
 y101
def ii(x0:ae)(x1:Int):Int:=
 LET (qe x0 3 x1) λy101=>
 y101
def fj(x1:List aa)(K0:ak->ak):Nat->Int->ak->ak
 |0,x18_,zE1=>K0 zE1
 |m+1,x18_,zE1=>
  LET (jc zE1.p (ix x1 x18_)) λy107=>
  LET (fu y107 ({p:=zE1.p,cells:=zE1.cells}:ak)) λy108=>
  fj x1 K0 m (x18_+1) ({p:=y108.p,cells:=y108.cells}:ak)
def fk(x2:List Int)(K2:ak->ak):Nat->Int->ak->ak
 |0,x33_,zE1=>K2 zE1
 |m+1,x33_,zE1=>
  LET (js zE1.p (ix x2 x33_)) λy114=>
  LET (fu y114 ({p:=zE1.p,cells:=zE1.cells}:ak)) λy115=>
  fk x2 K2 m (x33_+1) ({p:=y115.p,cells:=y115.cells}:ak)
def fi(x3:List Int)(K4:ak->ak):Nat->Int->ak->ak
 |0,x48_,zE1=>K4 zE1
 |m+1,x48_,zE1=>
  LET (ii zE1.p (ix x3 x48_)) λy121=>
  LET (fu y121 ({p:=zE1.p,cells:=zE1.cells}:ak)) λy122=>
  fi x3 K4 m (x48_+1) ({p:=y122.p,cells:=y122.cells}:ak)
def fe(x0:ak)(x1:List aa)(x2:List Int)(x3:List Int):ak:=
 fj x1 (λ(zE1_110:ak)=>
  fk x2 (λ(zE1_117:ak)=>
   fi x3 (λ(zE1_124:ak)=>
    ({p:=zE1_124.p,cells:=zE1_124.cells}:ak)) (Int.toNat ((x3.length:Int)-0)) 0 ({p:=zE1_117.p,cells:=zE1_117.cells}:ak)) (Int.toNat ((x2.length:Int)-0)) 0 ({p:=zE1_110.p,cells:=zE1_110.cells}:ak)) (Int.toNat ((x1.length:Int)-0)) 0 ({p:=x0.p,cells:=x0.cells}:ak)
def em(x0:ak):(List Int):=
 LET (dx x0.cells) λy101=>
 LET (jy y101) λy103=>
 y103
def gq(x0:ae)(x1:ba):bw×Bool:=
 if((decide (x1.Table < 0))||(decide ((x0.Tables.length:Int)<=x1.Table)))then
  (({Name:=([]:List UInt8),Keys:=([]:List fb),Actions:=([]:List Int),Default:=({Action:=0,Args:=([]:List (BitVec 32))}:ga),Size:=0}:bw),false)
 else
 ((ix x0.Tables x1.Table),true)
def mq(x0:UInt8):Bool:=
 (((decide ((97:UInt8)<=x0))&&(decide (x0<=(122:UInt8))))||((decide ((65:UInt8)<=x0))&&(decide (x0<=(90:UInt8)))))
def nh(x0:List UInt8)(x1:UInt8->Bool)(K0:Int->Int):Nat->Int->Int
 |0,x5_=>K0 x5_
 |m+1,x5_=>
  if((decide (x5_ < (x0.length:Int)))&&(x1 (ix x0 x5_)))then
   nh x0 x1 K0 m (x5_+1)
  else
  K0 x5_
def sq(x0:List UInt8)(x1:UInt8->Bool):Int:=
 nh x0 x1 (λ(x5_107:Int)=>
  x5_107) (Int.toNat ((x0.length:Int)-0)) 0
def ny(x0:UInt8):Bool:=
 ((decide ((48:UInt8)<=x0))&&(decide (x0<=(57:UInt8))))
def ku(x0:UInt8):Bool:=
 LET (mq x0) λy101=>
 ((y101||(ny x0))||(decide (x0=(95:UInt8))))
def km(x0:List UInt8):Bool:=
 if(((decide ((x0.length:Int)=0))||(decide (16 < (x0.length:Int))))||(!(mq (ix x0 0))))then
  false
 else
 LET (sq x0 ku) λy105=>
 (decide (y105=(x0.length:Int)))
def gf(x0:az)(c0:az):Bool:=
 (decide (x0.Name=c0.Name))
def dm(x0:List az)(x1:az->Bool)(K0:Unit->Int):Nat->Int->Int
 |0,x8_=>K0 ()
 |m+1,x8_=>
  if(x1 (ix x0 x8_))then
   x8_
  else
  dm x0 x1 K0 m (x8_+1)
def gw(x0:List az)(x1:az->Bool):Int:=
 dm x0 x1 (λ(_:Unit)=>
  (-1)) (Int.toNat ((x0.length:Int)-0)) 0
def gh(x0:List az)(x1:az->Bool):Bool:=
 LET (gw x0 x1) λy101=>
 (decide (0<=y101))
def ie(x0:bm)(K1:Unit->Int):Nat->Int->Int
 |0,x24_=>K1 ()
 |m+1,x24_=>
  LET (km ((ix x0.Params x24_).Name)) λy114=>
  if(!y114)then
   6
  else
  if((decide (((ix x0.Params x24_).Width) < 1))||(decide (32 < ((ix x0.Params x24_).Width))))then
   10
  else
  LET (gh (sub x0.Params 0 x24_) (λa_=>gf a_ (ix x0.Params x24_))) λy122=>
  if y122 then
   7
  else
  ie x0 K1 m (x24_+1)
def kp(x0:bm):Int:=
 LET (km x0.Name) λy101=>
 if(!y101)then
  6
 else
 if((decide (4 < (x0.Params.length:Int)))||(decide (12 < (x0.Body.length:Int))))then
  12
 else
 ie x0 (λ(_:Unit)=>
  0) (Int.toNat ((x0.Params.length:Int)-0)) 0
def qo(x0:ae)(x1:aa):Int×Bool:=
 LET (λ(x6_109:List az)=>
  if((decide (x1.Field < 0))||(decide ((x6_109.length:Int)<=x1.Field)))then
   (0,false)
  else
  ((ix x6_109 x1.Field).Width,true)) λk109=>
 if(!decide (x1.Header=(-1)))then
  if((decide (x1.Header < 0))||(decide ((x0.Headers.length:Int)<=x1.Header)))then
   (0,false)
  else
  k109 ((ix x0.Headers x1.Header).Fields)
 else
 k109 x0.Metadata
def en(x0:Int):Int:=
 LET (λ(x4_104:Bool)=>
  if x4_104 then
   0
  else
  LET (λ(x9_109:Bool)=>
   if x9_109 then
    1
   else
   LET (λ(x14_118:Bool)=>
    if x14_118 then
     2
    else
    if(decide (x0=17))then
     3
    else
    (-1)) λk118=>
   if(decide (x0=9))then
    k118 (decide (x0=9))
   else
   if(decide (x0=10))then
    k118 (decide (x0=10))
   else
   if(decide (x0=11))then
    k118 (decide (x0=11))
   else
   if(decide (x0=12))then
    k118 (decide (x0=12))
   else
   if(decide (x0=13))then
    k118 (decide (x0=13))
   else
   if(decide (x0=14))then
    k118 (decide (x0=14))
   else
   if(decide (x0=15))then
    k118 (decide (x0=15))
   else
   k118 (decide (x0=16))) λk109=>
  if(decide (x0=5))then
   k109 (decide (x0=5))
  else
  if(decide (x0=6))then
   k109 (decide (x0=6))
  else
  if(decide (x0=7))then
   k109 (decide (x0=7))
  else
  k109 (decide (x0=8))) λk104=>
 if(decide (x0=1))then
  k104 (decide (x0=1))
 else
 if(decide (x0=2))then
  k104 (decide (x0=2))
 else
 if(decide (x0=3))then
  k104 (decide (x0=3))
 else
 k104 (decide (x0=4))
def oi(x0:Int):Int×Int:=
 if((decide (x0 < 1))||(decide (32 < x0)))then
  (0,10)
 else
 (x0,0)
def nk(x0:List Int)(K0:Unit->Bool):Nat->Int->Bool
 |0,x7_=>K0 ()
 |m+1,x7_=>
  if((decide ((ix x0 x7_) < 1))||(decide (32 < (ix x0 x7_))))then
   false
  else
  nk x0 K0 m (x7_+1)
def qr(x0:List Int):Bool:=
 nk x0 (λ(_:Unit)=>
  true) (Int.toNat ((x0.length:Int)-0)) 0
def oq(x0:Int):(BitVec 32):=
 LET (qr ([x0]:List Int)) λy102=>
 if(!y102)then
  0#32
 else
 (4294967295#32>>>(wr (32-x0)).toNat)
def mc(x0:bc)(x1:Int)(x2:Int):az×Bool:=
 LET (λ(x8_115:List az)=>
  if((decide (x2 < 0))||(decide ((x8_115.length:Int)<=x2)))then
   (({Name:=([]:List UInt8),Width:=0}:az),false)
  else
  ((ix x8_115 x2),true)) λk115=>
 if(!decide (x1=(-1)))then
  if((decide (x1 < 0))||(decide ((x0.Program.Headers.length:Int)<=x1)))then
   (({Name:=([]:List UInt8),Width:=0}:az),false)
  else
  k115 ((ix x0.Program.Headers x1).Fields)
 else
 k115 x0.Program.Metadata
def iu(x0:bc)(x1:ah):Int×Int:=
 if(decide (x1.Op=1))then
  LET (oi x1.W) λy102=>
  if((decide (y102.2=0))&&((decide (x1.N < 0))||(decide (((oq y102.1).toNat:Int) < x1.N))))then
   (0,9)
  else
  (y102.1,y102.2)
 else
 if(decide (x1.Op=2))then
  LET (mc x0 x1.N x1.W) λy108=>
  if(!y108.2)then
   (0,8)
  else
  LET (oi y108.1.Width) λy114=>
  (y114.1,y114.2)
 else
 if(decide (x1.Op=3))then
  if((decide (x1.N < 0))||(decide ((x0.Params.length:Int)<=x1.N)))then
   (0,8)
  else
  LET (oi ((ix x0.Params x1.N).Width)) λy121=>
  (y121.1,y121.2)
 else
 if((decide (x1.N < 0))||(decide ((x0.Program.Headers.length:Int)<=x1.N)))then
  (0,8)
 else
 (1,0)
def ia(x0:ah)(x1:List Int):Int×Int:=
 LET (λ(x10_102:Bool)=>
  if x10_102 then
   if((decide (x0.N < 0))||(decide (31 < x0.N)))then
    (0,9)
   else
   LET (en x0.Op) λy106=>
   if((decide (y106=2))&&(!decide ((ix x1 0)=(ix x1 1))))then
    (0,10)
   else
   if((decide (x0.Op=15))||(decide (x0.Op=16)))then
    (1,0)
   else
   ((ix x1 0),0)
  else
  if(decide (x0.Op=8))then
   if(decide (x0.N < 0))then
    (0,9)
   else
   LET (oi x0.W) λy116=>
   if((!decide (y116.2=0))||(decide ((wr ((ix x1 0)-x0.W)) < x0.N)))then
    (0,10)
   else
   (x0.W,0)
  else
  if(decide (x0.Op=14))then
   LET (oi (wr ((ix x1 0)+(ix x1 1)))) λy123=>
   (y123.1,y123.2)
  else
  if(decide (x0.Op=17))then
   if((!decide ((ix x1 0)=1))||(!decide ((ix x1 1)=(ix x1 2))))then
    (0,10)
   else
   ((ix x1 1),0)
  else
  LET (en x0.Op) λy131=>
  if((decide (y131=2))&&(!decide ((ix x1 0)=(ix x1 1))))then
   (0,10)
  else
  if((decide (x0.Op=15))||(decide (x0.Op=16)))then
   (1,0)
  else
  ((ix x1 0),0)) λk102=>
 if(decide (x0.Op=6))then
  k102 (decide (x0.Op=6))
 else
 k102 (decide (x0.Op=7))
def df(x0:bc)(x1:List ah)(rec_:bc->(List ah)->Int->(Int×Int×Int))(K1:Int->(List Int)->(Int×Int×Int)):Nat->Int->Int->(List Int)->(Int×Int×Int)
 |0,x7_,x44_,zE109=>K1 x7_ zE109
 |m+1,x7_,x44_,zE109=>
  LET (rec_ x0 x1 x7_) λy112=>
  if(!decide (y112.2.2=0))then
   (0,0,y112.2.2)
  else
  df x0 x1 rec_ K1 m y112.2.1 (x44_+1) (zE109.set x44_.toNat y112.1)
def ee(rec_:bc->(List ah)->Int->(Int×Int×Int))(x0:bc)(x1:List ah)(x2:Int):Int×Int×Int:=
 if(decide ((x1.length:Int)<=x2))then
  (0,0,3)
 else
 LET (en ((ix x1 x2).Op)) λy103=>
 if(decide (y103 < 0))then
  (0,0,11)
 else
 if(decide (y103=0))then
  LET (iu x0 (ix x1 x2)) λy107=>
  (y107.1,(wr (x2+1)),y107.2)
 else
 df x0 x1 rec_ (λ(x7_116:Int)(zE109_116:List Int)=>
  LET (ia (ix x1 x2) zE109_116) λy118=>
  (y118.1,x7_116,y118.2)) (Int.toNat (y103-0)) (wr (x2+1)) 0 ([0,0,0]:List Int)
def dh:Nat->bc->(List ah)->Int->(Int×Int×Int)
 |0,x0,x1,x2=>(0,0,1)
 |n_+1,x0,x1,x2=>ee (dh n_) x0 x1 x2
def db(x0:bc)(x1:List ah)(x2:Int):Int×Int×Int:=dh ((x1.length-x2.toNat)+1) x0 x1 x2
def pc(x0:List ah)(x1:bc):Int×Int:=
 if(decide (24 < (x0.length:Int)))then
  (0,12)
 else
 LET (db x1 x0 0) λy102=>
 if(!decide (y102.2.2=0))then
  (0,y102.2.2)
 else
 if(decide (y102.2.1 < (x0.length:Int)))then
  (0,4)
 else
 (y102.1,0)
def gy(x0:di)(x1:List ah)(x2:Int):Int:=
 LET (pc x1 x0.scope) λy102=>
 if((decide (y102.2=0))&&(!decide (y102.1=x2)))then
  10
 else
 y102.2
def ep(x0:di)(x1:au):Int:=
 LET (qo x0.scope.Program x1.Dst) λy107=>
 if(decide (x1.Kind=1))then
  if(!y107.2)then
   8
  else
  LET (gy x0 x1.Value y107.1) λy113=>
  y113
 else
 LET (λ(x43_115:Bool)=>
  if x43_115 then
   if((decide (x1.Header < 0))||(decide ((x0.scope.Program.Headers.length:Int)<=x1.Header)))then
    8
   else
   0
  else
  LET (λ(x57_121:Bool)=>
   if x57_121 then
    if((!((decide (0<=x1.Register))&&(decide (x1.Register < (x0.scope.Program.Registers.length:Int)))))||((decide (x1.Kind=4))&&(!y107.2)))then
     8
    else
    LET (pc x1.Index x0.scope) λy128=>
    if(!decide (y128.2=0))then
     y128.2
    else
    if(decide (x1.Kind=5))then
     LET (gy x0 x1.Value ((ix x0.scope.Program.Registers x1.Register).Width)) λy134=>
     y134
    else
    if(!decide (y107.1=((ix x0.scope.Program.Registers x1.Register).Width)))then
     10
    else
    0
   else
   11) λk121=>
  if(decide (x1.Kind=4))then
   k121 (decide (x1.Kind=4))
  else
  k121 (decide (x1.Kind=5))) λk115=>
 if(decide (x1.Kind=2))then
  k115 (decide (x1.Kind=2))
 else
 k115 (decide (x1.Kind=3))
def kh(x0:ae)(x1:Int)(K0:Unit->(Int×Int)):Nat->Int->(Int×Int)
 |0,x37_=>K0 ()
 |m+1,x37_=>
  LET (ep ({scope:=({Program:=x0,Params:=(ix x0.Actions x1).Params}:bc)}:di) (ix ((ix x0.Actions x1).Body) x37_)) λy124=>
  if(!decide (y124=0))then
   (x37_,y124)
  else
  kh x0 x1 K0 m (x37_+1)
def mm(x0:ae)(x1:Int):Int×Int:=
 if((decide (x1 < 0))||(decide ((x0.Actions.length:Int)<=x1)))then
  ((-1),8)
 else
 LET (kp (ix x0.Actions x1)) λy109=>
 if(!decide (y109=0))then
  ((-1),y109)
 else
 kh x0 x1 (λ(_:Unit)=>
  (0,0)) (Int.toNat ((((ix x0.Actions x1).Body).length:Int)-0)) 0
def jx(x0:ae)(x1:Int):(List au):=
 LET (mm x0 x1) λy101=>
 if(!decide (y101.2=0))then
  ([]:List au)
 else
 (ix x0.Actions x1).Body
def dn(x0:cb)(x1:List ah):cb:=
 LET (ll x1) λy101=>
 LET (ki x1) λy105=>
 ({fields:=(x0.fields++y101),headers:=(x0.headers++y105),registers:=x0.registers}:cb)
def cz(x0:cb):(List aa)×(List Int)×(List Int):=
 LET (fg x0.fields) λy102=>
 LET (dx x0.headers) λy104=>
 LET (dx x0.registers) λy106=>
 LET (iw y102) λy108=>
 LET (jy y104) λy111=>
 LET (jy y106) λy114=>
 (y108,y111,y114)
def gk(y103:(List au))(K0:cb->((List aa)×(List Int)×(List Int))):Nat->Int->cb->((List aa)×(List Int)×(List Int))
 |0,x14_,zE102=>K0 zE102
 |m+1,x14_,zE102=>
  LET (λ(zE102_143:cb)=>
   if(((decide (((ix y103 x14_).Kind)=1))||(decide (((ix y103 x14_).Kind)=4)))&&(!decide ((((ix y103 x14_).Dst).Header)=(-1))))then
    gk y103 K0 m (x14_+1) ({fields:=zE102_143.fields,headers:=(zE102_143.headers++([((ix y103 x14_).Dst).Header]:List Int)),registers:=zE102_143.registers}:cb)
   else
   gk y103 K0 m (x14_+1) ({fields:=zE102_143.fields,headers:=zE102_143.headers,registers:=zE102_143.registers}:cb)) λk143=>
  if(decide (((ix y103 x14_).Kind)=1))then
   LET (dn ({fields:=zE102.fields,headers:=zE102.headers,registers:=zE102.registers}:cb) ((ix y103 x14_).Value)) λy155=>
   k143 ({fields:=y155.fields,headers:=y155.headers,registers:=y155.registers}:cb)
  else
  if(decide (((ix y103 x14_).Kind)=2))then
   k143 ({fields:=zE102.fields,headers:=(zE102.headers++([(ix y103 x14_).Header]:List Int)),registers:=zE102.registers}:cb)
  else
  if(decide (((ix y103 x14_).Kind)=4))then
   LET (dn ({fields:=zE102.fields,headers:=zE102.headers,registers:=zE102.registers}:cb) ((ix y103 x14_).Index)) λy165=>
   k143 ({fields:=y165.fields,headers:=y165.headers,registers:=(y165.registers++([(ix y103 x14_).Register]:List Int))}:cb)
  else
  if(decide (((ix y103 x14_).Kind)=5))then
   LET (dn ({fields:=zE102.fields,headers:=zE102.headers,registers:=zE102.registers}:cb) ((ix y103 x14_).Index)) λy174=>
   LET (dn ({fields:=y174.fields,headers:=y174.headers,registers:=y174.registers}:cb) ((ix y103 x14_).Value)) λy178=>
   k143 ({fields:=y178.fields,headers:=y178.headers,registers:=y178.registers}:cb)
  else
  k143 ({fields:=zE102.fields,headers:=zE102.headers,registers:=zE102.registers}:cb)
def ij(x0:ae)(x1:Int):(List aa)×(List Int)×(List Int):=
 LET (jx x0 x1) λy103=>
 gk y103 (λ(zE102_181:cb)=>
  LET (cz ({fields:=zE102_181.fields,headers:=zE102_181.headers,registers:=zE102_181.registers}:cb)) λy182=>
  (y182.1,y182.2.1,y182.2.2)) (Int.toNat ((y103.length:Int)-0)) 0 ({fields:=([]:List aa),headers:=([]:List Int),registers:=([]:List Int)}:cb)
def lu(y119:bw×Bool)(K0:ak->(List Int)):Nat->Int->ak->(List Int)
 |0,x39_,zE103=>K0 zE103
 |m+1,x39_,zE103=>
  LET (fe ({p:=zE103.p,cells:=zE103.cells}:ak) ([(ix y119.1.Keys x39_).Field]:List aa) ([]:List Int) ([]:List Int)) λy139=>
  lu y119 K0 m (x39_+1) ({p:=y139.p,cells:=y139.cells}:ak)
def kg(x0:ae)(y119:bw×Bool)(K2:ak->(List Int)):Nat->Int->ak->(List Int)
 |0,x52_,zE103=>K2 zE103
 |m+1,x52_,zE103=>
  LET (ij x0 (ix y119.1.Actions x52_)) λy150=>
  LET (fe ({p:=zE103.p,cells:=zE103.cells}:ak) y150.1 y150.2.1 y150.2.2) λy154=>
  kg x0 y119 K2 m (x52_+1) ({p:=y154.p,cells:=y154.cells}:ak)
def md(x0:ae)(x1:ba):(List Int):=
 if(decide (x1.Table=(-1)))then
  LET (ll x1.Cond) λy106=>
  LET (ki x1.Cond) λy109=>
  LET (fe ({p:=x0,cells:=([]:List Int)}:ak) y106 y109 ([]:List Int)) λy111=>
  LET (em ({p:=y111.p,cells:=y111.cells}:ak)) λy115=>
  y115
 else
 LET (gq x0 x1) λy119=>
 if(!y119.2)then
  ([]:List Int)
 else
 lu y119 (λ(zE103_142:ak)=>
  kg x0 y119 (λ(zE103_157:ak)=>
   LET (em ({p:=zE103_157.p,cells:=zE103_157.cells}:ak)) λy158=>
   y158) (Int.toNat ((y119.1.Actions.length:Int)-0)) 0 ({p:=zE103_142.p,cells:=zE103_142.cells}:ak)) (Int.toNat ((y119.1.Keys.length:Int)-0)) 0 ({p:=x0,cells:=([]:List Int)}:ak)
def ip(y103:(List au))(x15_:Int)(K3:(List Int)->(List Int)->(List aa)->((List aa)×(List Int)×(List Int))):Nat->Int->(List Int)->(List Int)->(List aa)->((List aa)×(List Int)×(List Int))
 |0,x49_,zE110n2,zE108n2,zE106n2=>K3 zE110n2 zE108n2 zE106n2
 |m+1,x49_,zE110n2,zE108n2,zE106n2=>
  ip y103 x15_ K3 m (x49_+1) zE110n2 zE108n2 (zE106n2++([({Header:=(ix y103 x15_).Header,Field:=x49_}:aa)]:List aa))
def ej(x0:ae)(y103:(List au))(K0:(List Int)->(List Int)->(List aa)->((List aa)×(List Int)×(List Int))):Nat->Int->(List Int)->(List Int)->(List aa)->((List aa)×(List Int)×(List Int))
 |0,x15_,zE110,zE108,zE106=>K0 zE110 zE108 zE106
 |m+1,x15_,zE110,zE108,zE106=>
  LET (λ(x21_118:Bool)=>
   if x21_118 then
    ej x0 y103 K0 m (x15_+1) zE110 zE108 (zE106++([(ix y103 x15_).Dst]:List aa))
   else
   LET (λ(x31_125:Bool)=>
    if x31_125 then
     ip y103 x15_ (λ(zE110n2_138:List Int)(zE108n2_138:List Int)(zE106n2_138:List aa)=>
      ej x0 y103 K0 m (x15_+1) zE110n2_138 zE108n2_138 zE106n2_138) (Int.toNat ((((ix x0.Headers ((ix y103 x15_).Header)).Fields).length:Int)-0)) 0 zE110 (zE108++([(ix y103 x15_).Header]:List Int)) zE106
    else
    if(decide (((ix y103 x15_).Kind)=5))then
     ej x0 y103 K0 m (x15_+1) (zE110++([(ix y103 x15_).Register]:List Int)) zE108 zE106
    else
    ej x0 y103 K0 m (x15_+1) zE110 zE108 zE106) λk125=>
   if(decide (((ix y103 x15_).Kind)=2))then
    k125 (decide (((ix y103 x15_).Kind)=2))
   else
   k125 (decide (((ix y103 x15_).Kind)=3))) λk118=>
  if(decide (((ix y103 x15_).Kind)=1))then
   k118 (decide (((ix y103 x15_).Kind)=1))
  else
  k118 (decide (((ix y103 x15_).Kind)=4))
def gm(x0:ae)(x1:Int):(List aa)×(List Int)×(List Int):=
 LET (jx x0 x1) λy103=>
 ej x0 y103 (λ(zE110_145:List Int)(zE108_145:List Int)(zE106_145:List aa)=>
  LET (cz ({fields:=zE106_145,headers:=zE108_145,registers:=zE110_145}:cb)) λy146=>
  (y146.1,y146.2.1,y146.2.2)) (Int.toNat ((y103.length:Int)-0)) 0 ([]:List Int) ([]:List Int) ([]:List aa)
def ks(x0:ae)(y101:bw×Bool)(K0:ak->(List Int)):Nat->Int->ak->(List Int)
 |0,x24_,zE109=>K0 zE109
 |m+1,x24_,zE109=>
  LET (gm x0 (ix y101.1.Actions x24_)) λy120=>
  LET (fe ({p:=zE109.p,cells:=zE109.cells}:ak) y120.1 y120.2.1 y120.2.2) λy124=>
  ks x0 y101 K0 m (x24_+1) ({p:=y124.p,cells:=y124.cells}:ak)
def kd(x0:ae)(x1:ba):(List Int):=
 LET (gq x0 x1) λy101=>
 if(!y101.2)then
  ([]:List Int)
 else
 ks x0 y101 (λ(zE109_127:ak)=>
  LET (em ({p:=zE109_127.p,cells:=zE109_127.cells}:ak)) λy128=>
  y128) (Int.toNat ((y101.1.Actions.length:Int)-0)) 0 ({p:=x0,cells:=([]:List Int)}:ak)
def dv(x0:List bq)(x1:bq)(K0:Unit->Int):Nat->Int->Int
 |0,x8_=>K0 ()
 |m+1,x8_=>
  if(decide (x1=(ix x0 x8_)))then
   x8_
  else
  dv x0 x1 K0 m (x8_+1)
def iv(x0:List bq)(x1:bq):Int:=
 dv x0 x1 (λ(_:Unit)=>
  (-1)) (Int.toNat ((x0.length:Int)-0)) 0
def fm(x0:List bq)(x1:bq):Bool:=
 LET (iv x0 x1) λy101=>
 (decide (0<=y101))
def ng(x0:bq)(c0:List ba)(c1:Int):Bool:=
 LET (fm ((ix c0 c1).Guards) ({Unit:=x0.Unit,Want:=(!x0.Want)}:bq)) λy103=>
 y103
def dl(x0:List bq)(x1:bq->Bool)(K0:Unit->Int):Nat->Int->Int
 |0,x8_=>K0 ()
 |m+1,x8_=>
  if(x1 (ix x0 x8_))then
   x8_
  else
  dl x0 x1 K0 m (x8_+1)
def gx(x0:List bq)(x1:bq->Bool):Int:=
 dl x0 x1 (λ(_:Unit)=>
  (-1)) (Int.toNat ((x0.length:Int)-0)) 0
def gj(x0:List bq)(x1:bq->Bool):Bool:=
 LET (gx x0 x1) λy101=>
 (decide (0<=y101))
def kf(x0:List ba)(x1:Int)(x2:Int):Bool:=
 if((((decide (x1 < 0))||(decide ((x0.length:Int)<=x1)))||(decide (x2 < 0)))||(decide ((x0.length:Int)<=x2)))then
  false
 else
 LET (gj ((ix x0 x1).Guards) (λa_=>ng a_ x0 x2)) λy108=>
 y108
def ni(x0:ba)(x1:Int)(K0:Unit->Bool):Nat->Int->Bool
 |0,x10_=>K0 ()
 |m+1,x10_=>
  if(decide (((ix x0.Guards x10_).Unit)=x1))then
   true
  else
  ni x0 x1 K0 m (x10_+1)
def pu(x0:ba)(x1:Int):Bool:=
 ni x0 x1 (λ(_:Unit)=>
  false) (Int.toNat ((x0.Guards.length:Int)-0)) 0
def ka(x0:List Int)(x1:List Int)(x11_:Int)(K2:Unit->Bool):Nat->Int->Bool
 |0,x17_=>K2 ()
 |m+1,x17_=>
  if(decide ((ix x0 x11_)=(ix x1 x17_)))then
   true
  else
  ka x0 x1 x11_ K2 m (x17_+1)
def jz(x0:List Int)(x1:List Int)(K0:Unit->Bool):Nat->Int->Bool
 |0,x11_=>K0 ()
 |m+1,x11_=>
  ka x0 x1 x11_ (λ(_:Unit)=>
   jz x0 x1 K0 m (x11_+1)) (Int.toNat ((x1.length:Int)-0)) 0
def fw(x0:List Int)(x1:List Int):Bool:=
 jz x0 x1 (λ(_:Unit)=>
  false) (Int.toNat ((x0.length:Int)-0)) 0
def mf(x0:ae)(x1:List ba)(K0:(List (List Int))->(List (List Int))->(List (List Int))->(List (List Int))):Nat->Int->(List (List Int))->(List (List Int))->(List (List Int))->(List (List Int))
 |0,x23_,zE106,zE104,zE102=>K0 zE106 zE104 zE102
 |m+1,x23_,zE106,zE104,zE102=>
  LET (md x0 (ix x1 x23_)) λy113=>
  LET (kd x0 (ix x1 x23_)) λy115=>
  mf x0 x1 K0 m (x23_+1) (zE106.set (x23_).toNat (List.replicate x1.length (0:Int))) (zE104.set (x23_).toNat y115) (zE102.set (x23_).toNat y113)
def jq(x1:List ba)(zE104_130:List (List Int))(zE102_130:List (List Int))(x47_:Int)(K3:(List (List Int))->(List (List Int)))(K4:(List (List Int))->(List (List Int))):Nat->Int->(List (List Int))->(List (List Int))
 |0,x51_,zE106n3=>K4 zE106n3
 |m+1,x51_,zE106n3=>
  if(decide (x51_<=x47_))then
   jq x1 zE104_130 zE102_130 x47_ K3 K4 m (x51_+1) zE106n3
  else
  LET (kf x1 x47_ x51_) λy136=>
  if y136 then
   if(decide (x51_=(wr ((x1.length:Int)-1))))then
    K3 zE106n3
   else
   jq x1 zE104_130 zE102_130 x47_ K3 K4 m (x51_+1) zE106n3
  else
  LET (pu (ix x1 x51_) x47_) λy140=>
  if((y140||(fw (ix zE102_130 x51_) (ix zE104_130 x47_)))||(fw (ix zE104_130 x51_) (ix zE104_130 x47_)))then
   if(decide (x51_=(wr ((x1.length:Int)-1))))then
    K3 (zE106n3.set (x47_).toNat ((ix zE106n3 x47_).set (x51_).toNat 2))
   else
   jq x1 zE104_130 zE102_130 x47_ K3 K4 m (x51_+1) (zE106n3.set (x47_).toNat ((ix zE106n3 x47_).set (x51_).toNat 2))
  else
  LET (fw (ix zE104_130 x51_) (ix zE102_130 x47_)) λy166=>
  if y166 then
   if(decide (x51_=(wr ((x1.length:Int)-1))))then
    K3 (zE106n3.set (x47_).toNat ((ix zE106n3 x47_).set (x51_).toNat 1))
   else
   jq x1 zE104_130 zE102_130 x47_ K3 K4 m (x51_+1) (zE106n3.set (x47_).toNat ((ix zE106n3 x47_).set (x51_).toNat 1))
  else
  if(decide (x51_=(wr ((x1.length:Int)-1))))then
   K3 zE106n3
  else
  jq x1 zE104_130 zE102_130 x47_ K3 K4 m (x51_+1) zE106n3
def jp(x1:List ba)(zE104_130:List (List Int))(zE102_130:List (List Int))(K2:(List (List Int))->(List (List Int))):Nat->Int->(List (List Int))->(List (List Int))
 |0,x47_,zE106=>K2 zE106
 |m+1,x47_,zE106=>
  jq x1 zE104_130 zE102_130 x47_ (λ(zE106n3_177:List (List Int))=>
   jp x1 zE104_130 zE102_130 K2 m (x47_+1) zE106n3_177) (λ(zE106n3_178:List (List Int))=>
   jp x1 zE104_130 zE102_130 K2 m (x47_+1) zE106n3_178) (Int.toNat ((x1.length:Int)-0)) 0 zE106
def rr(x0:ae)(x1:List ba):(List (List Int)):=
 mf x0 x1 (λ(zE106_130:List (List Int))(zE104_130:List (List Int))(zE102_130:List (List Int))=>
  jp x1 zE104_130 zE102_130 (λ(zE106_179:List (List Int))=>
   zE106_179) (Int.toNat ((x1.length:Int)-0)) 0 zE106_130) (Int.toNat ((x1.length:Int)-0)) 0 (List.replicate x1.length ([]:List Int)) (List.replicate x1.length ([]:List Int)) (List.replicate x1.length ([]:List Int))
def ol(x0:UInt8):Bool:=
 (((decide ((97:UInt8)<=x0))&&(decide (x0<=(122:UInt8))))||((decide ((65:UInt8)<=x0))&&(decide (x0<=(90:UInt8)))))
def qi(x0:UInt8):Bool:=
 ((decide ((48:UInt8)<=x0))&&(decide (x0<=(57:UInt8))))
def jf(x0:List UInt8)(K0:Unit->Bool):Nat->Int->Bool
 |0,x3_=>K0 ()
 |m+1,x3_=>
  LET (ol (ix x0 x3_)) λy107=>
  if(((!y107)&&(!(qi (ix x0 x3_))))&&(!decide ((ix x0 x3_)=(95:UInt8))))then
   false
  else
  jf x0 K0 m (x3_+1)
def jl(x0:List UInt8):Bool:=
 if(((decide (x0=([]:List UInt8)))||(decide (16 < (x0.length:Int))))||(!(ol (ix x0 0))))then
  false
 else
 jf x0 (λ(_:Unit)=>
  true) (Int.toNat ((x0.length:Int)-0)) 0
def lj(x0:List az)(x3_:Int)(K3:Unit->Int):Nat->Int->Int
 |0,x4_=>K3 ()
 |m+1,x4_=>
  if(decide (((ix x0 x4_).Name)=((ix x0 x3_).Name)))then
   7
  else
  lj x0 x3_ K3 m (x4_+1)
def lp(x0:List az)(K0:Unit->Int):Nat->Int->Int
 |0,x3_=>K0 ()
 |m+1,x3_=>
  LET (jl ((ix x0 x3_).Name)) λy104=>
  if(!y104)then
   6
  else
  if((decide (((ix x0 x3_).Width) < 1))||(decide (32 < ((ix x0 x3_).Width))))then
   10
  else
  lj x0 x3_ (λ(_:Unit)=>
   lp x0 K0 m (x3_+1)) (Int.toNat (x3_-0)) 0
def qp(x0:List az):Int:=
 lp x0 (λ(_:Unit)=>
  0) (Int.toNat ((x0.length:Int)-0)) 0
def sa(x0:ae)(x1:Int):bc:=
 ({Program:=x0,Params:=(ix x0.Actions x1).Params}:bc)
def oc(x0:ae)(x1:aa):Int×Bool:=
 LET (λ(x6_109:List az)=>
  if((decide (x1.Field < 0))||(decide ((x6_109.length:Int)<=x1.Field)))then
   (0,false)
  else
  ((ix x6_109 x1.Field).Width,true)) λk109=>
 if(!decide (x1.Header=(-1)))then
  if((decide (x1.Header < 0))||(decide ((x0.Headers.length:Int)<=x1.Header)))then
   (0,false)
  else
  k109 ((ix x0.Headers x1.Header).Fields)
 else
 k109 x0.Metadata
def mn(x0:Int):Int:=
 if((decide (1<=x0))&&(decide (x0<=4)))then
  0
 else
 if((decide (5<=x0))&&(decide (x0<=8)))then
  1
 else
 if((decide (9<=x0))&&(decide (x0<=16)))then
  2
 else
 if(decide (x0=17))then
  3
 else
 (-1)
def qf(x0:Int):Int×Int:=
 if((decide (x0 < 1))||(decide (32 < x0)))then
  (0,10)
 else
 (x0,0)
def qz(x0:Int):Bool:=
 ((decide (1<=x0))&&(decide (x0<=32)))
def qk(K0:(BitVec 64)->(BitVec 64)):Nat->(BitVec 64)->Int->(BitVec 64)
 |0,x3_,x4_=>K0 x3_
 |m+1,x3_,x4_=>
  qk K0 m (2#64*x3_) (x4_+1)
def vw(x0:Int):(BitVec 64):=
 qk (λ(x3_103:BitVec 64)=>
  x3_103) (Int.toNat (x0-0)) 1#64 0
def pp(x0:Int):(BitVec 32):=
 LET (qz x0) λy101=>
 if(!y101)then
  0#32
 else
 LET (vw x0) λy103=>
 (BitVec.setWidth 32 (y103-1#64))
def rv(x0:ah)(x1:bc):Int×Int:=
 if(decide (x0.Op=1))then
  LET (qf x0.W) λy102=>
  if((decide (y102.2=0))&&((decide (x0.N < 0))||(decide (((pp y102.1).toNat:Int) < x0.N))))then
   (0,9)
  else
  (y102.1,y102.2)
 else
 if(decide (x0.Op=2))then
  LET (oc x1.Program ({Header:=x0.N,Field:=x0.W}:aa)) λy109=>
  if(!y109.2)then
   (0,8)
  else
  LET (qf y109.1) λy111=>
  (y111.1,y111.2)
 else
 if(decide (x0.Op=3))then
  if((decide (x0.N < 0))||(decide ((x1.Params.length:Int)<=x0.N)))then
   (0,8)
  else
  LET (qf ((ix x1.Params x0.N).Width)) λy118=>
  (y118.1,y118.2)
 else
 if((decide (x0.N < 0))||(decide ((x1.Program.Headers.length:Int)<=x0.N)))then
  (0,8)
 else
 (1,0)
def iz(x0:ah)(x1:List Int):Int×Int:=
 if(decide (x0.Op=5))then
  ((ix x1 0),0)
 else
 LET (λ(x13_103:Bool)=>
  if x13_103 then
   if((decide (x0.N < 0))||(decide (31 < x0.N)))then
    (0,9)
   else
   ((ix x1 0),0)
  else
  if(decide (x0.Op=8))then
   if(decide (x0.N < 0))then
    (0,9)
   else
   if(((decide (x0.W < 1))||(decide (32 < x0.W)))||(decide ((wr ((ix x1 0)-x0.W)) < x0.N)))then
    (0,10)
   else
   (x0.W,0)
  else
  if(decide (x0.Op=14))then
   LET (qf (wr ((ix x1 0)+(ix x1 1)))) λy113=>
   (y113.1,y113.2)
  else
  if(decide (x0.Op=17))then
   if((!decide ((ix x1 0)=1))||(!decide ((ix x1 1)=(ix x1 2))))then
    (0,10)
   else
   ((ix x1 1),0)
  else
  if(!decide ((ix x1 0)=(ix x1 1)))then
   (0,10)
  else
  if((decide (x0.Op=15))||(decide (x0.Op=16)))then
   (1,0)
  else
  ((ix x1 0),0)) λk103=>
 if(decide (x0.Op=6))then
  k103 (decide (x0.Op=6))
 else
 k103 (decide (x0.Op=7))
def mv(x0:List ah)(x2:bc)(rec_:(List ah)->Int->bc->(Int×Int×Int))(K0:Int->(List Int)->(Int×Int×Int)):Nat->Int->Int->(List Int)->(Int×Int×Int)
 |0,x13_,x14_,zE109=>K0 x13_ zE109
 |m+1,x13_,x14_,zE109=>
  LET (rec_ x0 x13_ x2) λy112=>
  if(!decide (y112.2.2=0))then
   (0,y112.2.1,y112.2.2)
  else
  mv x0 x2 rec_ K0 m y112.2.1 (x14_+1) (zE109++([y112.1]:List Int))
def pb(rec_:(List ah)->Int->bc->(Int×Int×Int))(x0:List ah)(x1:Int)(x2:bc):Int×Int×Int:=
 if(decide ((x0.length:Int)<=x1))then
  (0,x1,3)
 else
 LET (mn ((ix x0 x1).Op)) λy103=>
 if(decide (y103 < 0))then
  (0,x1,11)
 else
 if(decide (y103=0))then
  LET (rv (ix x0 x1) x2) λy107=>
  (y107.1,(wr (x1+1)),y107.2)
 else
 mv x0 x2 rec_ (λ(x13_116:Int)(zE109_116:List Int)=>
  LET (iz (ix x0 x1) zE109_116) λy118=>
  (y118.1,x13_116,y118.2)) (Int.toNat (y103-0)) (wr (x1+1)) 0 ([]:List Int)
def jb:Nat->(List ah)->Int->bc->(Int×Int×Int)
 |0,x0,x1,x2=>(0,0,1)
 |n_+1,x0,x1,x2=>pb (jb n_) x0 x1 x2
def si(x0:List ah)(x1:Int)(x2:bc):Int×Int×Int:=jb ((x0.length-x1.toNat)+1) x0 x1 x2
def pk(x0:List ah)(x1:bc):Int×Int:=
 if(decide (24 < (x0.length:Int)))then
  (0,12)
 else
 LET (si x0 0 x1) λy102=>
 if(!decide (y102.2.2=0))then
  (0,y102.2.2)
 else
 if(decide (y102.2.1 < (x0.length:Int)))then
  (0,4)
 else
 (y102.1,0)
def rc(x0:List ah)(x1:bc)(x2:Int):Int:=
 LET (pk x0 x1) λy101=>
 if((decide (y101.2=0))&&(!decide (y101.1=x2)))then
  10
 else
 y101.2
def py(x0:ae)(x1:au)(x2:bc):Int:=
 LET (oc x0 x1.Dst) λy102=>
 if(decide (x1.Kind=1))then
  if(!y102.2)then
   8
  else
  LET (rc x1.Value x2 y102.1) λy108=>
  y108
 else
 LET (λ(x43_110:Bool)=>
  if x43_110 then
   if((decide (x1.Header < 0))||(decide ((x0.Headers.length:Int)<=x1.Header)))then
    8
   else
   0
  else
  if(decide (x1.Kind=4))then
   if((!y102.2)||(!((decide (0<=x1.Register))&&(decide (x1.Register < (x0.Registers.length:Int))))))then
    8
   else
   LET (pk x1.Index x2) λy119=>
   if((decide (y119.2=0))&&(!decide (y102.1=((ix x0.Registers x1.Register).Width))))then
    10
   else
   y119.2
  else
  if(decide (x1.Kind=5))then
   if(!((decide (0<=x1.Register))&&(decide (x1.Register < (x0.Registers.length:Int)))))then
    8
   else
   LET (pk x1.Index x2) λy127=>
   if(!decide (y127.2=0))then
    y127.2
   else
   LET (rc x1.Value x2 ((ix x0.Registers x1.Register).Width)) λy132=>
   y132
  else
  11) λk110=>
 if(decide (x1.Kind=2))then
  k110 (decide (x1.Kind=2))
 else
 k110 (decide (x1.Kind=3))
def oe(x0:ae)(x1:Int)(K1:Unit->(Int×Int)):Nat->Int->(Int×Int)
 |0,x7_=>K1 ()
 |m+1,x7_=>
  LET (sa x0 x1) λy126=>
  LET (py x0 (ix ((ix x0.Actions x1).Body) x7_) y126) λy128=>
  if(!decide (y128=0))then
   (x7_,y128)
  else
  oe x0 x1 K1 m (x7_+1)
def mo(x0:ae)(x1:Int):Int×Int:=
 if((decide (x1 < 0))||(decide ((x0.Actions.length:Int)<=x1)))then
  ((-1),8)
 else
 LET (jl ((ix x0.Actions x1).Name)) λy109=>
 if(!y109)then
  ((-1),6)
 else
 if((decide (4 < (((ix x0.Actions x1).Params).length:Int)))||(decide (12 < (((ix x0.Actions x1).Body).length:Int))))then
  ((-1),12)
 else
 LET (qp ((ix x0.Actions x1).Params)) λy116=>
 if(!decide (y116=0))then
  LET (qp ((ix x0.Actions x1).Params)) λy119=>
  ((-1),y119)
 else
 oe x0 x1 (λ(_:Unit)=>
  (0,0)) (Int.toNat ((((ix x0.Actions x1).Body).length:Int)-0)) 0
def jg(x0:aa)(x1:aa):Bool:=
 ((decide (x0.Header < x1.Header))||((decide (x0.Header=x1.Header))&&(decide (x0.Field < x1.Field))))
def fq(x0:List aa)(x1:aa)(K0:Bool->(List aa)->(List aa)):Nat->Bool->Int->(List aa)->(List aa)
 |0,x6_,x7_,zE102=>K0 x6_ zE102
 |m+1,x6_,x7_,zE102=>
  if((!x6_)&&(!(jg (ix x0 x7_) x1)))then
   if(!decide ((ix x0 x7_)=x1))then
    fq x0 x1 K0 m true (x7_+1) ((zE102++([x1]:List aa))++([(ix x0 x7_)]:List aa))
   else
   fq x0 x1 K0 m true (x7_+1) (zE102++([(ix x0 x7_)]:List aa))
  else
  fq x0 x1 K0 m x6_ (x7_+1) (zE102++([(ix x0 x7_)]:List aa))
def kb(x0:List aa)(x1:aa):(List aa):=
 fq x0 x1 (λ(x6_122:Bool)(zE102_122:List aa)=>
  if(!x6_122)then
   (zE102_122++([x1]:List aa))
  else
  zE102_122) (Int.toNat ((x0.length:Int)-0)) false 0 ([]:List aa)
def gv(x0:List Int)(x1:Int)(K0:Bool->(List Int)->(List Int)):Nat->Bool->Int->(List Int)->(List Int)
 |0,x6_,x7_,zE102=>K0 x6_ zE102
 |m+1,x6_,x7_,zE102=>
  if((!x6_)&&(decide (x1<=(ix x0 x7_))))then
   if(!decide ((ix x0 x7_)=x1))then
    gv x0 x1 K0 m true (x7_+1) ((zE102++([x1]:List Int))++([(ix x0 x7_)]:List Int))
   else
   gv x0 x1 K0 m true (x7_+1) (zE102++([(ix x0 x7_)]:List Int))
  else
  gv x0 x1 K0 m x6_ (x7_+1) (zE102++([(ix x0 x7_)]:List Int))
def gz(x0:List Int)(x1:Int):(List Int):=
 gv x0 x1 (λ(x6_116:Bool)(zE102_116:List Int)=>
  if(!x6_116)then
   (zE102_116++([x1]:List Int))
  else
  zE102_116) (Int.toNat ((x0.length:Int)-0)) false 0 ([]:List Int)
def lw(x0:ae)(x1:Int)(x11_:Int)(K3:aq->((List aa)×(List Int)×(List Int))):Nat->Int->aq->((List aa)×(List Int)×(List Int))
 |0,x13_,zE104n2=>K3 zE104n2
 |m+1,x13_,zE104n2=>
  LET (kb zE104n2.Fields ({Header:=(ix ((ix x0.Actions x1).Body) x11_).Header,Field:=x13_}:aa)) λy136=>
  lw x0 x1 x11_ K3 m (x13_+1) ({Fields:=y136,Headers:=zE104n2.Headers,Registers:=zE104n2.Registers}:aq)
def ik(x0:ae)(x1:Int)(K0:aq->((List aa)×(List Int)×(List Int))):Nat->Int->aq->((List aa)×(List Int)×(List Int))
 |0,x11_,zE104=>K0 zE104
 |m+1,x11_,zE104=>
  LET (λ(x47_116:Bool)=>
   if x47_116 then
    LET (kb zE104.Fields ((ix ((ix x0.Actions x1).Body) x11_).Dst)) λy120=>
    ik x0 x1 K0 m (x11_+1) ({Fields:=y120,Headers:=zE104.Headers,Registers:=zE104.Registers}:aq)
   else
   LET (λ(x56_125:Bool)=>
    if x56_125 then
     lw x0 x1 x11_ (λ(zE104n2_140:aq)=>
      LET (gz zE104n2_140.Headers ((ix ((ix x0.Actions x1).Body) x11_).Header)) λy142=>
      ik x0 x1 K0 m (x11_+1) ({Fields:=zE104n2_140.Fields,Headers:=y142,Registers:=zE104n2_140.Registers}:aq)) (Int.toNat ((((ix x0.Headers ((ix ((ix x0.Actions x1).Body) x11_).Header)).Fields).length:Int)-0)) 0 zE104
    else
    LET (gz zE104.Registers ((ix ((ix x0.Actions x1).Body) x11_).Register)) λy147=>
    ik x0 x1 K0 m (x11_+1) ({Fields:=zE104.Fields,Headers:=zE104.Headers,Registers:=y147}:aq)) λk125=>
   if(decide (((ix ((ix x0.Actions x1).Body) x11_).Kind)=2))then
    k125 (decide (((ix ((ix x0.Actions x1).Body) x11_).Kind)=2))
   else
   k125 (decide (((ix ((ix x0.Actions x1).Body) x11_).Kind)=3))) λk116=>
  if(decide (((ix ((ix x0.Actions x1).Body) x11_).Kind)=1))then
   k116 (decide (((ix ((ix x0.Actions x1).Body) x11_).Kind)=1))
  else
  k116 (decide (((ix ((ix x0.Actions x1).Body) x11_).Kind)=4))
def ns(x0:ae)(x1:Int):(List aa)×(List Int)×(List Int):=
 LET (mo x0 x1) λy101=>
 if(!decide (y101.2=0))then
  (([]:List aa),([]:List Int),([]:List Int))
 else
 ik x0 x1 (λ(zE104_153:aq)=>
  (zE104_153.Fields,zE104_153.Headers,zE104_153.Registers)) (Int.toNat ((((ix x0.Actions x1).Body).length:Int)-0)) 0 ({Fields:=([]:List aa),Headers:=([]:List Int),Registers:=([]:List Int)}:aq)
def lq(x0:ae)(K0:Int->Int):Nat->Int->Int->Int
 |0,x5_,x6_=>K0 x5_
 |m+1,x5_,x6_=>
  lq x0 K0 m (wr (x5_+(((ix x0.Headers x6_).Fields).length:Int))) (x6_+1)
def nm(x0:ae)(x1:Int):Int:=
 lq x0 (λ(x5_106:Int)=>
  x5_106) (Int.toNat (x1-0)) 0 0
def fh(x0:ae)(x1:aa):Int:=
 if(((decide (x1.Header=(-1)))&&(decide (0<=x1.Field)))&&(decide (x1.Field < (x0.Metadata.length:Int))))then
  LET (nm x0 (x0.Headers.length:Int)) λy106=>
  (wr ((wr (y106+(x0.Headers.length:Int)))+x1.Field))
 else
 if((((decide (x1.Header < 0))||(decide ((x0.Headers.length:Int)<=x1.Header)))||(decide (x1.Field < 0)))||(decide ((((ix x0.Headers x1.Header).Fields).length:Int)<=x1.Field)))then
  (-1)
 else
 LET (nm x0 x1.Header) λy116=>
 (wr (y116+x1.Field))
def lv(x0:List Int)(x1:Int)(K0:Int->(List Int)):Nat->Int->(List Int)
 |0,x5_=>K0 x5_
 |m+1,x5_=>
  if((decide (x5_ < (x0.length:Int)))&&(decide ((ix x0 x5_) < x1)))then
   lv x0 x1 K0 m (x5_+1)
  else
  K0 x5_
def mj(x0:List Int)(x1:Int):(List Int):=
 lv x0 x1 (λ(x5_105:Int)=>
  if((decide (x1 < 0))||((decide (x5_105 < (x0.length:Int)))&&(decide ((ix x0 x5_105)=x1))))then
   x0
  else
  (((sub x0 0 x5_105)++([x1]:List Int))++(sub x0 x5_105 (x0.length:Int)))) (Int.toNat ((x0.length:Int)-0)) 0
def il(x0:ae)(x1:Int):Int:=
 if((decide (x1 < 0))||(decide ((x0.Headers.length:Int)<=x1)))then
  (-1)
 else
 LET (nm x0 (x0.Headers.length:Int)) λy105=>
 (wr (y105+x1))
def ib(x0:ae)(x1:Int):Int:=
 if((decide (x1 < 0))||(decide ((x0.Registers.length:Int)<=x1)))then
  (-1)
 else
 LET (nm x0 (x0.Headers.length:Int)) λy105=>
 (wr ((wr ((wr (y105+(x0.Headers.length:Int)))+(x0.Metadata.length:Int)))+x1))
def lm(x0:ae)(x2:List aa)(K0:(List Int)->(List Int)):Nat->(List Int)->Int->(List Int)
 |0,x1_,x11_=>K0 x1_
 |m+1,x1_,x11_=>
  LET (fh x0 (ix x2 x11_)) λy104=>
  LET (mj x1_ y104) λy105=>
  lm x0 x2 K0 m y105 (x11_+1)
def ln(x0:ae)(x3:List Int)(K2:(List Int)->(List Int)):Nat->(List Int)->Int->(List Int)
 |0,x1_,x12_=>K2 x1_
 |m+1,x1_,x12_=>
  LET (il x0 (ix x3 x12_)) λy110=>
  LET (mj x1_ y110) λy111=>
  ln x0 x3 K2 m y111 (x12_+1)
def lh(x0:ae)(x4:List Int)(K4:(List Int)->(List Int)):Nat->(List Int)->Int->(List Int)
 |0,x1_,x13_=>K4 x1_
 |m+1,x1_,x13_=>
  LET (ib x0 (ix x4 x13_)) λy116=>
  LET (mj x1_ y116) λy117=>
  lh x0 x4 K4 m y117 (x13_+1)
def nr(x0:ae)(x1:List Int)(x2:List aa)(x3:List Int)(x4:List Int):(List Int):=
 lm x0 x2 (λ(x1_107:List Int)=>
  ln x0 x3 (λ(x1_113:List Int)=>
   lh x0 x4 (λ(x1_119:List Int)=>
    x1_119) (Int.toNat ((x4.length:Int)-0)) x1_113 0) (Int.toNat ((x3.length:Int)-0)) x1_107 0) (Int.toNat ((x2.length:Int)-0)) x1 0
def li(x0:ae)(x1:ba)(K0:(List Int)->(List Int)):Nat->(List Int)->Int->(List Int)
 |0,x5_,x7_=>K0 x5_
 |m+1,x5_,x7_=>
  LET (ns x0 (ix ((ix x0.Tables x1.Table).Actions) x7_)) λy114=>
  LET (nr x0 x5_ y114.1 y114.2.1 y114.2.2) λy118=>
  li x0 x1 K0 m y118 (x7_+1)
def ot(x0:ae)(x1:ba):(List Int):=
 if((decide (x1.Table < 0))||(decide ((x0.Tables.length:Int)<=x1.Table)))then
  ([]:List Int)
 else
 li x0 x1 (λ(x5_120:List Int)=>
  x5_120) (Int.toNat ((((ix x0.Tables x1.Table).Actions).length:Int)-0)) ([]:List Int) 0
def jn(x0:List ba)(x1:Int)(x2:Int)(x7_:Int)(K2:Unit->Bool):Nat->Int->Bool
 |0,x8_=>K2 ()
 |m+1,x8_=>
  if((decide (((ix ((ix x0 x1).Guards) x7_).Unit)=((ix ((ix x0 x2).Guards) x8_).Unit)))&&(!decide (((ix ((ix x0 x1).Guards) x7_).Want)=((ix ((ix x0 x2).Guards) x8_).Want))))then
   true
  else
  jn x0 x1 x2 x7_ K2 m (x8_+1)
def jm(x0:List ba)(x1:Int)(x2:Int)(K0:Unit->Bool):Nat->Int->Bool
 |0,x7_=>K0 ()
 |m+1,x7_=>
  jn x0 x1 x2 x7_ (λ(_:Unit)=>
   jm x0 x1 x2 K0 m (x7_+1)) (Int.toNat ((((ix x0 x2).Guards).length:Int)-0)) 0
def oh(x0:List ba)(x1:Int)(x2:Int):Bool:=
 if((((decide (x1 < 0))||(decide (x2 < 0)))||(decide ((x0.length:Int)<=x1)))||(decide ((x0.length:Int)<=x2)))then
  false
 else
 jm x0 x1 x2 (λ(_:Unit)=>
  false) (Int.toNat ((((ix x0 x1).Guards).length:Int)-0)) 0
def mb(x0:ba)(x1:Int)(K0:Unit->Bool):Nat->Int->Bool
 |0,x5_=>K0 ()
 |m+1,x5_=>
  if(decide (((ix x0.Guards x5_).Unit)=x1))then
   true
  else
  mb x0 x1 K0 m (x5_+1)
def rz(x0:ba)(x1:Int):Bool:=
 mb x0 x1 (λ(_:Unit)=>
  false) (Int.toNat ((x0.Guards.length:Int)-0)) 0
def ke(x0:List ah)(K0:(List aa)->(List aa)):Nat->(List aa)->Int->(List aa)
 |0,x3_,x4_=>K0 x3_
 |m+1,x3_,x4_=>
  if(decide (((ix x0 x4_).Op)=2))then
   LET (kb x3_ ({Header:=(ix x0 x4_).N,Field:=(ix x0 x4_).W}:aa)) λy107=>
   ke x0 K0 m y107 (x4_+1)
  else
  ke x0 K0 m x3_ (x4_+1)
def nq(x0:List ah):(List aa):=
 ke x0 (λ(x3_109:List aa)=>
  x3_109) (Int.toNat ((x0.length:Int)-0)) ([]:List aa) 0
def jv(x0:List ah)(K0:(List Int)->(List Int)):Nat->(List Int)->Int->(List Int)
 |0,x3_,x4_=>K0 x3_
 |m+1,x3_,x4_=>
  if(decide (((ix x0 x4_).Op)=4))then
   LET (gz x3_ ((ix x0 x4_).N)) λy106=>
   jv x0 K0 m y106 (x4_+1)
  else
  jv x0 K0 m x3_ (x4_+1)
def mh(x0:List ah):(List Int):=
 jv x0 (λ(x3_108:List Int)=>
  x3_108) (Int.toNat ((x0.length:Int)-0)) ([]:List Int) 0
def kw(y105:(List aa))(K0:aq->aq):Nat->Int->aq->aq
 |0,x7_,zE102=>K0 zE102
 |m+1,x7_,zE102=>
  LET (kb zE102.Fields (ix y105 x7_)) λy114=>
  kw y105 K0 m (x7_+1) ({Fields:=y114,Headers:=zE102.Headers,Registers:=zE102.Registers}:aq)
def kv(y107:(List Int))(K2:aq->aq):Nat->Int->aq->aq
 |0,x8_,zE102=>K2 zE102
 |m+1,x8_,zE102=>
  LET (gz zE102.Headers (ix y107 x8_)) λy122=>
  kv y107 K2 m (x8_+1) ({Fields:=zE102.Fields,Headers:=y122,Registers:=zE102.Registers}:aq)
def nw(x0:aq)(x1:List ah):aq:=
 LET (nq x1) λy105=>
 LET (mh x1) λy107=>
 kw y105 (λ(zE102_118:aq)=>
  kv y107 (λ(zE102_126:aq)=>
   zE102_126) (Int.toNat ((y107.length:Int)-0)) 0 zE102_118) (Int.toNat ((y105.length:Int)-0)) 0 x0
def ky(x0:ae)(x1:Int)(K0:aq->((List aa)×(List Int)×(List Int))):Nat->Int->aq->((List aa)×(List Int)×(List Int))
 |0,x11_,zE104=>K0 zE104
 |m+1,x11_,zE104=>
  LET (λ(zE104_121:aq)=>
   LET (λ(zE104_128:aq)=>
    LET (λ(zE104_139:aq)=>
     LET (λ(zE104_146:aq)=>
      if(decide (((ix ((ix x0.Actions x1).Body) x11_).Kind)=4))then
       LET (gz zE104_146.Registers ((ix ((ix x0.Actions x1).Body) x11_).Register)) λy149=>
       ky x0 x1 K0 m (x11_+1) ({Fields:=zE104_146.Fields,Headers:=zE104_146.Headers,Registers:=y149}:aq)
      else
      ky x0 x1 K0 m (x11_+1) zE104_146) λk146=>
     if(decide (((ix ((ix x0.Actions x1).Body) x11_).Kind)=2))then
      LET (gz zE104_139.Headers ((ix ((ix x0.Actions x1).Body) x11_).Header)) λy155=>
      k146 ({Fields:=zE104_139.Fields,Headers:=y155,Registers:=zE104_139.Registers}:aq)
     else
     k146 zE104_139) λk139=>
    if(((decide (((ix ((ix x0.Actions x1).Body) x11_).Kind)=1))||(decide (((ix ((ix x0.Actions x1).Body) x11_).Kind)=4)))&&(!decide ((((ix ((ix x0.Actions x1).Body) x11_).Dst).Header)=(-1))))then
     LET (gz zE104_128.Headers (((ix ((ix x0.Actions x1).Body) x11_).Dst).Header)) λy162=>
     k139 ({Fields:=zE104_128.Fields,Headers:=y162,Registers:=zE104_128.Registers}:aq)
    else
    k139 zE104_128) λk128=>
   if((decide (((ix ((ix x0.Actions x1).Body) x11_).Kind)=1))||(decide (((ix ((ix x0.Actions x1).Body) x11_).Kind)=5)))then
    LET (nw zE104_121 ((ix ((ix x0.Actions x1).Body) x11_).Value)) λy168=>
    k128 y168
   else
   k128 zE104_121) λk121=>
  if((decide (((ix ((ix x0.Actions x1).Body) x11_).Kind)=4))||(decide (((ix ((ix x0.Actions x1).Body) x11_).Kind)=5)))then
   LET (nw zE104 ((ix ((ix x0.Actions x1).Body) x11_).Index)) λy173=>
   k121 y173
  else
  k121 zE104
def ov(x0:ae)(x1:Int):(List aa)×(List Int)×(List Int):=
 LET (mo x0 x1) λy101=>
 if(!decide (y101.2=0))then
  (([]:List aa),([]:List Int),([]:List Int))
 else
 ky x0 x1 (λ(zE104_176:aq)=>
  (zE104_176.Fields,zE104_176.Headers,zE104_176.Registers)) (Int.toNat ((((ix x0.Actions x1).Body).length:Int)-0)) 0 ({Fields:=([]:List aa),Headers:=([]:List Int),Registers:=([]:List Int)}:aq)
def na(x0:ae)(x1:ba)(K0:(List Int)->(List Int)):Nat->(List Int)->Int->(List Int)
 |0,x5_,x7_=>K0 x5_
 |m+1,x5_,x7_=>
  LET (fh x0 ((ix ((ix x0.Tables x1.Table).Keys) x7_).Field)) λy125=>
  LET (mj x5_ y125) λy126=>
  na x0 x1 K0 m y126 (x7_+1)
def ld(x0:ae)(x1:ba)(K2:(List Int)->(List Int)):Nat->(List Int)->Int->(List Int)
 |0,x5_,x8_=>K2 x5_
 |m+1,x5_,x8_=>
  LET (ov x0 (ix ((ix x0.Tables x1.Table).Actions) x8_)) λy134=>
  LET (nr x0 x5_ y134.1 y134.2.1 y134.2.2) λy138=>
  ld x0 x1 K2 m y138 (x8_+1)
def ow(x0:ae)(x1:ba):(List Int):=
 if(decide (x1.Table=(-1)))then
  LET (nq x1.Cond) λy103=>
  LET (mh x1.Cond) λy106=>
  LET (nr x0 ([]:List Int) y103 y106 ([]:List Int)) λy108=>
  y108
 else
 if((decide (x1.Table < 0))||(decide ((x0.Tables.length:Int)<=x1.Table)))then
  ([]:List Int)
 else
 na x0 x1 (λ(x5_128:List Int)=>
  ld x0 x1 (λ(x5_140:List Int)=>
   x5_140) (Int.toNat ((((ix x0.Tables x1.Table).Actions).length:Int)-0)) x5_128 0) (Int.toNat ((((ix x0.Tables x1.Table).Keys).length:Int)-0)) ([]:List Int) 0
def nj(x0:List Int)(x1:List Int)(x5_:Int)(K2:Unit->Bool):Nat->Int->Bool
 |0,x6_=>K2 ()
 |m+1,x6_=>
  if(decide ((ix x0 x5_)=(ix x1 x6_)))then
   true
  else
  nj x0 x1 x5_ K2 m (x6_+1)
def nl(x0:List Int)(x1:List Int)(K0:Unit->Bool):Nat->Int->Bool
 |0,x5_=>K0 ()
 |m+1,x5_=>
  nj x0 x1 x5_ (λ(_:Unit)=>
   nl x0 x1 K0 m (x5_+1)) (Int.toNat ((x1.length:Int)-0)) 0
def me(x0:List Int)(x1:List Int):Bool:=
 nl x0 x1 (λ(_:Unit)=>
  false) (Int.toNat ((x0.length:Int)-0)) 0
def oa(x0:ae)(x1:List ba)(x2:Int)(x3:Int):Int:=
 LET (ot x0 (ix x1 x2)) λy102=>
 LET (oh x1 x2 x3) λy104=>
 if y104 then
  0
 else
 LET (rz (ix x1 x3) x2) λy107=>
 if((y107||(me (ow x0 (ix x1 x3)) y102))||(me (ot x0 (ix x1 x3)) y102))then
  2
 else
 LET (ow x0 (ix x1 x2)) λy120=>
 LET (ot x0 (ix x1 x3)) λy123=>
 LET (me y120 y123) λy125=>
 if y125 then
  1
 else
 0
def lc(x0:ae)(x1:List ba)(x6_:Int)(K2:(List Int)->(List (List Int))):Nat->Int->(List Int)->(List (List Int))
 |0,x8_,zE106=>K2 zE106
 |m+1,x8_,zE106=>
  LET (oa x0 x1 x6_ x8_) λy109=>
  lc x0 x1 x6_ K2 m (x8_+1) (zE106.set (x8_).toNat y109)
def jo(x0:ae)(x1:List ba)(K0:(List (List Int))->(List (List Int))):Nat->Int->(List (List Int))->(List (List Int))
 |0,x6_,zE102=>K0 zE102
 |m+1,x6_,zE102=>
  lc x0 x1 x6_ (λ(zE106_112:List Int)=>
   jo x0 x1 K0 m (x6_+1) (zE102++([zE106_112]:List (List Int)))) (Int.toNat ((x1.length:Int)-(wr (x6_+1)))) (wr (x6_+1)) (List.replicate x1.length (0:Int))
def sh(x0:ae)(x1:List ba):(List (List Int)):=
 jo x0 x1 (λ(zE102_116:List (List Int))=>
  zE102_116) (Int.toNat ((x1.length:Int)-0)) 0 ([]:List (List Int))
def jk(x0:List Int)(x1:List Int)(K0:Unit->Bool):Nat->Int->Bool
 |0,x5_=>K0 ()
 |m+1,x5_=>
  if(!decide ((ix x0 x5_)=(ix x1 x5_)))then
   false
  else
  jk x0 x1 K0 m (x5_+1)
def pz(x0:List Int)(x1:List Int):Bool:=
 if(!decide ((x0.length:Int)=(x1.length:Int)))then
  false
 else
 jk x0 x1 (λ(_:Unit)=>
  true) (Int.toNat ((x0.length:Int)-0)) 0
def jd(y106:(List (List Int)))(y108:(List (List Int)))(K0:Unit->Bool):Nat->Int->Bool
 |0,x7_=>K0 ()
 |m+1,x7_=>
  LET (pz (ix y106 x7_) (ix y108 x7_)) λy115=>
  if(!y115)then
   false
  else
  jd y106 y108 K0 m (x7_+1)
def pj(x0:ae)(x1:List ba):Bool:=
 LET (rg x0) λy101=>
 if((!y101)||(!(ma x1)))then
  LET (wc) λy105=>
  y105
 else
 LET (rr x0 x1) λy106=>
 LET (sh x0 x1) λy108=>
 if(!decide ((y106.length:Int)=(y108.length:Int)))then
  false
 else
 jd y106 y108 (λ(_:Unit)=>
  LET (wc) λy118=>
  y118) (Int.toNat ((y106.length:Int)-0)) 0
end Go.Proofs.YtmonnlkagniolaaGreat
